import PyProof.Rows.All
import Wide.All
import OpenK.AllK
import Wide.FinOn
import HandS.ForMost
import HandS.Conv
import HandS.More
import HandS.Strs
import HandS.SetFor
import HandS.Style
import HandS.IsInst
import HandS.TupAny
import HandS.Zip
import HandS.Walk
import HandS.Evl
import HandS.Flow
import KE.DatumOrd
import KE.GoesEnum
import HandS.SortInts
import PySem.Challenge.RW_huedties_k87_whole_two_sides_walked
set_option Elab.async false
set_option linter.all false
set_option maxRecDepth 100000
set_option maxHeartbeats 4000000
/-! rules beyond the layer's own -/
namespace K87X
open PySem PySem.Spec PyProof.Rows L2
/-! try, nothing raised within -/
theorem ps_try_calm {X : Cx} {body : List Stmt} {h0 : ExceptHandler} {hs : List ExceptHandler} {pos : Pos} {t : TS} (hb : PSs X.nox body t) : PS X (.Try body (h0 :: hs) [] [] pos) t := by
  refine ⟨fun pins s σ H D I h => wpAny_Try_except ?_⟩
  refine wpAny_mono (hb.run pins s σ H D (I.wish _) h) (fun f s1 q => ?_) fun _ _ z => z.elim
  have q := q.unwish
  cases f with
  | next => exact wpAny_execs_nil q
  | ret v => exact q
  | brk => exact q
  | cont => exact q
/-! sum of a tuple of numbers -/
def rSumT : List V → Hp → VK → Prop := fun vs H Q => ∃ (a : Addr) (i j : Int), vs = [V.ref a] ∧ H a = some (.tup [.int i, .int j]) ∧ Q (.int (i + j)) H
theorem cr_sumT {X : Cx} (hc : X.calm = true) : CallR X (.builtin "sum") rSumT := by
  intro pins s σ H xs us Q I r h
  obtain ⟨a, i, j, rfl, ha, q⟩ := h
  obtain ⟨u, rfl, ru⟩ := vals1 r
  cases ru
  obtain ⟨its, rv, ht, hz⟩ := I.tuple (SqT.of ha)
  obtain ⟨t1, t2, rfl⟩ := Vals.int2 rv
  have hT : s.heap.IsTuple a #[.int i t1, .int j t2] := ht
  have ne : a ≠ s.heap.objs.size := Nat.ne_of_lt (by obtain ⟨o, e, _⟩ := hT; exact Heap.lt_size e)
  refine call_sum_walkG (wpAny_pyIter_tuple hT ?_)
  refine ⟨_, _, _, _, _, _, fun k => if k = 0 then i else j, rfl, Walks.tuple (A := X.A.in1) (I.ok.hd hc) _ a ne #[.int i t1, .int j t2], ⟨⟨_, Heap.get?_push_size _ rfl, rfl, rfl⟩, hT.push _⟩, fun b hb => ?_, fun k v hv => ?_, fun h' tk t' hk => ?_⟩
  · rw [Heap.size_push]
    rcases List.mem_cons.mp hb with e | hb
    · rw [e]; exact Nat.lt_succ_self _
    · rw [List.mem_singleton] at hb
      rw [hb]; exact Nat.lt_succ_of_lt (by obtain ⟨o, e, _⟩ := hT; exact Heap.lt_size e)
  · match k, hv with
    | 0, hv => exact ⟨t1, (Option.some.inj hv).symm⟩
    | 1, hv => exact ⟨t2, (Option.some.inj hv).symm⟩
    | k + 2, hv => simp at hv
  · have e : preSum (fun k => if k = 0 then i else j) 2 = i + j := by
      simp [preSum]
    refine ⟨.int (i + j), H, I.kept (fun b o z => hk b o ?_ (Heap.get?_push_of_some _ z)), ⟨t', ?_⟩, q⟩
    · rw [List.mem_singleton]
      exact Nat.ne_of_lt (Heap.lt_size z)
    · show Value.int (preSum (fun k => if k = 0 then i else j) 2) t' = _
      rw [e]
/-! list.extend by a tuple -/
def rExtT : V → List V → Hp → VK → Prop := fun x vs H Q => ∃ l b xs zs, x = .ref l ∧ vs = [.ref b] ∧ H l = some (.lst xs) ∧ H b = some (.tup zs) ∧ xs.length + zs.length ≤ sizeLine ∧ Q .non (upd H l (.lst (xs ++ zs)))
/-- extend at the model's level, the other a tuple as the layer knows tuples (its own dict and slots left open) -/
theorem ext_tup (l b : Addr) (items items2 : Array Value) (n n2 : Nat) (dd : Option Addr) (sl : Array (Option Value)) (hs0 : (!items.isEmpty && Builtin.List.listTooLong (items.size + items2.size)) = false) (hs1 : items.size ≤ sizeLine) (hs2 : items.size + items2.size ≤ sizeLine + 1) :
    Meets (Builtin.«list.extend» ⟨[.ref l, .ref b], []⟩) (fun _ R s => s.heap.get? l = some { cls := .type "list", dict := none, data := .seq items n, slots := #[] } ∧
      s.heap.get? b = some { cls := .type "tuple", dict := dd, data := .seq items2 n2, slots := sl } ∧ R (.ok (.ret Value.none)) { s with heap := s.heap.update l (Obj.mapSeq fun x => x ++ items2), toks := s.toks }) :=
  .of_wp fun prog w A R s h => by
    obtain ⟨hp, g, d, tk, os⟩ := s
    obtain ⟨hl, hb, h⟩ := h
    have f2 := AutoSeq1.sub_tuple_tuple
    have f3 := AutoSeq1.sub_list_list
    have f4 := AutoSeq1.sub_tuple_list
    have f5 := AutoSeq1.sub_list_tuple
    have hz : (items ++ items2).size ≤ sizeLine + 1 := by
      rw [Array.size_append]
      exact hs2
    wp_walk using (wpAny_updateSeq hl rfl (hz := hs1) (_hz' := hz)), AutoSeq1.wpAny_loadPart' hl, AutoSeq1.wpAny_loadPart' hb
    exact ⟨_, rfl, h⟩
theorem mt_extT {X : Cx} : MtM X "list.extend" rExtT := by
  intro pins s σ H x vs v us Q I rx rv h
  obtain ⟨l, b, xs, zs, rfl, rfl, hH, hB, hz, q⟩ := h
  cases rx
  obtain ⟨u, rfl, ru⟩ := rv.one
  cases ru
  obtain ⟨z, its, n, r, hl, e⟩ := I.lstM hH
  obtain ⟨its2, r2, ⟨⟨cls, dd, data, sl⟩, e2, hc, n2, hd⟩, z2⟩ := I.tuple (SqT.of hB)
  simp only at hc hd
  subst hc hd
  have l2 := r2.length
  have sz : its.toArray.size + its2.toArray.size ≤ sizeLine := by
    rw [List.size_toArray, List.size_toArray]
    omega
  have long : (!its.toArray.isEmpty && Builtin.List.listTooLong (its.toArray.size + its2.toArray.size)) = false := by rw [notLongL sz, Bool.and_false]
  refine call_meets F.slot_list_extend ⟨_, e, rfl⟩ F.entry_list_extend (F.args_list_extend_2 _ _) (ext_tup l b its.toArray its2.toArray n n2 dd sl long (by omega) (by omega)) ⟨e, e2, ?_⟩
  exact ⟨.non, _, I.lset (its' := its ++ its2) hH e (by simp) (r.append r2) (by rw [List.length_append]; exact hz), rfl, q⟩
/-! dict.update by another dict -/
def rUpd : V → List V → Hp → VK → Prop := fun x vs H Q => ∃ (d o : Addr) (kvs more : List (Key × V)), x = .ref d ∧ vs = [.ref o] ∧ d ≠ o ∧ H d = some (.dK kvs) ∧ H o = some (.dK more) ∧ kvs.length + more.length ≤ sizeLine ∧ Q .non (upd H d (.dK (mergeK kvs more)))
theorem mt_upd {X : Cx} : MtR X "dict.update" rUpd := by
  intro pins s σ H x xs v us Q I rx rxs h
  obtain ⟨d, o, kvs, more, rfl, rfl, ne, hd, ho, hz, q⟩ := h
  cases rx
  obtain ⟨u, rfl, ru⟩ := rxs.one
  cases ru
  obtain ⟨z1, y1, vs1, r1, d1⟩ := dk_of I.hok hd
  obtain ⟨z2, y2, vs2, r2, d2⟩ := dk_of I.hok ho
  have l1 := KV.length r1
  have l2 := KV.length r2
  refine call_meetsIn F.slot_dict_update d1.typeIs F.entry_dict_update (F.args_dict_update_2 _ _) (meets_dict_update (mixKind X.prog X.w) d o ne y2) ⟨vs1, vs2, d1, d2, by omega, fun h' hd' _ hs => ?_⟩
  have le := length_mergeK more kvs
  refine ⟨.non, _, d_write (t' := s.toks) I (by rw [hd]; trivial) hs ?_ (dk_new (by omega) y1 (KV.merge r2 r1) hd'), rfl, q⟩
  obtain ⟨ob, es, ep, e, _⟩ := hd'
  exact ⟨ob, e⟩
/-! enumerate(t), t a tuple -/
def ItE (a : Addr) : It :=
  ⟨fun i H => ∃ (xs : List V) (x : V), H a = some (.tup xs) ∧ xs[i]? = some x, fun i H v H' => ∃ T x, v = .ref T ∧ H T = none ∧ H' = upd H T (.tup [.int (i : Nat), x]) ∧ ∀ xs, H a = some (.tup xs) → xs[i]? = some x,
    fun i H => ∃ xs : List V, H a = some (.tup xs) ∧ xs.length = i⟩
theorem turn_enumT {P : Program} {w : World} {K : PySem.W.Frag} {elts : List Expr} {kk : Nat} {tpos : Pos} (a e it : Addr) :
    Turn P w K (.Tuple elts kk tpos) (ItE a) [e, it] e (fun i h => (∃ old, IsEnum h e it ((i : Nat) : Int) old) ∧ h.IsTupleIter it a i ∧ e ≠ it) where
  mem := List.mem_cons_self
  obj := fun i h st b hb => by
    obtain ⟨⟨old, he⟩, ⟨o, ho, hc, hd⟩, _⟩ := st
    rcases List.mem_cons.mp hb with z | z
    · rw [z]
      exact ⟨_, he, fun v q => nomatch q⟩
    · rw [List.mem_singleton] at z
      exact ⟨o, by rw [z]; exact ho, fun v q => by rw [hd] at q; cases q⟩
  keep := fun i h h' st k => by
    obtain ⟨⟨old, he⟩, hi, hne⟩ := st
    exact ⟨⟨old, k e List.mem_cons_self _ he⟩, hi.at fun o q => k it (List.mem_cons_of_mem _ List.mem_cons_self) o q, hne⟩
  item := by
    intro X hP hw hK hc i pins s σ H E I hf st hg
    subst hP hw hK
    obtain ⟨⟨old, he⟩, hit, hne⟩ := st
    obtain ⟨xs, x, ha, hx⟩ := hg
    obtain ⟨its, rv, p, hz⟩ := I.tuple (SqT.of ha)
    obtain ⟨u, hu, ru⟩ := rv.get hx
    have hT : s.heap.IsTuple a its.toArray := p
    have ae : e ≠ a := fun z => by rw [← z, (hf e List.mem_cons_self).1] at ha; cases ha
    have ai : a ≠ it := fun z => by rw [z, (hf it (List.mem_cons_of_mem _ List.mem_cons_self)).1] at ha; cases ha
    have hel : e < s.heap.objs.size := Heap.lt_size he
    have hil : it < s.heap.objs.size := by
      obtain ⟨_, q, _⟩ := hit
      exact Heap.lt_size q
    have hlt : i < its.toArray.size := by
      rw [List.size_toArray]
      exact (List.getElem?_eq_some_iff.mp hu).1
    refine wpAny_pyNext_enum_itemC (Draws.tuple (A := X.A.in1) (I.ok.hd hc) it a ai its.toArray) he ⟨hit, hT⟩ hlt hne (fun z => ?_) fun y h' tk hy ho hit' hT2 hsz hk => ?_
    · rcases List.mem_cons.mp z with z | z
      · exact hne z
      · exact ae (List.mem_singleton.mp z)
    have eu : y = u := by
      have hy : its.toArray[i]? = some y := hy
      rw [List.getElem?_toArray, hu] at hy
      exact (Option.some.inj hy).symm
    subst eu
    refine ⟨_, rfl, wpAny_letOwnedTupleGo_enum (s := { s with heap := h', toks := tk + 1 }) ho fun h'' he' sb => ?_⟩
    have hT3 : h''.get? s.heap.objs.size = some { cls := .type "tuple", data := .seq #[.int i tk, y] } := (sb.2 _ (Nat.ne_of_gt hel)).trans hT2
    have new : ObjOk X.prog X.w (upd H s.heap.objs.size (.tup [.int (i : Nat), x])) h'' s.heap.objs.size (.tup [.int (i : Nat), x]) :=
      ⟨(by decide : 2 ≤ sizeLine), [.int i tk, y], .cons ⟨_, rfl⟩ (.cons ru .nil), ⟨_, hT3, rfl, _, rfl⟩⟩
    have I1 := I.turnedNew (t' := tk + 1) (h' := h'') (ch := [e, it]) (fun b ob hb q => (sb.2 b fun z => hb (by simp [z])).trans (hk b ob (fun z => hb (by simp [z])) (fun z => hb (by simp [z])) q)) hf (Nat.le_refl _) new
    refine ⟨.ref s.heap.objs.size, _, I1, rfl, ⟨_, x, rfl, I.hok.fresh (Nat.le_refl _), rfl, fun ys hy => ?_⟩, ⟨⟨y, ?_⟩, hit'.1.at fun o q => (sb.2 it (Ne.symm hne)).trans q, hne⟩, fun b hb => ?_⟩
    · rw [ha] at hy
      cases hy
      exact hx
    · have e1 : ((i + 1 : Nat) : Int) = (i : Int) + 1 := by omega
      rw [e1]
      exact he'
    · refine (upd_ne (Nat.ne_of_lt ?_)).trans (hf b hb).1
      rcases List.mem_cons.mp hb with z | z
      · rw [z]; exact hel
      · rw [List.mem_singleton.mp z]; exact hil
  done := by
    intro X hP hw hK hc i pins s σ H E I hf st hg
    subst hP hw hK
    obtain ⟨⟨old, he⟩, hit, hne⟩ := st
    obtain ⟨xs, ha, hx⟩ := hg
    obtain ⟨its, rv, p, hz⟩ := I.tuple (SqT.of ha)
    obtain ⟨f0, f1, f2, f3, f4, f5⟩ := hf it (List.mem_cons_of_mem _ List.mem_cons_self)
    have ai : a ≠ it := fun z => by rw [z, f0] at ha; cases ha
    have hl := rv.length
    have hT : s.heap.IsTuple a its.toArray := p
    refine wpAny_pyNext_enum_endD (Draws.tuple (A := X.A.in1) (I.ok.hd hc) it a ai its.toArray) he ⟨?_, hT⟩ fun h' eb => ⟨rfl, I.turned (t' := s.toks) (fun b o hb q => eb b o hb q) f0 f1 f3 f4 f5⟩
    have e1 : its.toArray.size = i := by
      rw [List.size_toArray]
      omega
    rw [e1]
    exact hit
  self := fun A i s Q E st h => wpAny_pyIter_enum st.1.choose_spec h
def iEnT (ta : TA) : TI := fun σ H R => ta σ H fun vs H1 => ∃ a xs, vs = [.ref a] ∧ H1 a = some (.tup xs) ∧ R (ItE a) H1
set_option maxHeartbeats 8000000 in
theorem new_enumT (l : Addr) (items : Array Value) :
    Meets (Builtin.«enumerate.__new__» ⟨[.type "enumerate", .ref l], []⟩) (fun _ R s => s.heap.IsTuple l items ∧
      R (.ok (.ret (.ref (s.heap.push { cls := .type "tuple_iterator", data := .fields #[.ref l, .int 0 0] }).objs.size)))
        { s with heap := (s.heap.push { cls := .type "tuple_iterator", data := .fields #[.ref l, .int 0 0] }).push { cls := .type "enumerate", data := .fields #[.none, .bool false, .ref s.heap.objs.size, rawInt 0, .none, .none] } }) :=
  .of_wp fun prog w A R s h => by
    obtain ⟨hp, g, d, tk, os⟩ := s
    obtain ⟨hl, h⟩ := h
    have f1 := sub_enumerate
    have it : ∀ {A' : Around} {E : Value → Shared → Prop} {Q : Value → Shared → Prop}, Q (.ref hp.objs.size) ⟨hp.push { cls := .type "tuple_iterator", data := .fields #[.ref l, .int 0 0] }, g, d, tk, os⟩ → wpAny (model prog w) A' (pyIter (.ref l)) Q E ⟨hp, g, d, tk, os⟩ :=
      fun q => (begins_tuple l items).iter prog w _ _ ⟨hp, g, d, tk, os⟩ _ hl q
    wp_walk using it
    refine wpAny_stack_any fun st => wpAny_pure ?_
    split
    · rename_i c _ _ _ _ _
      cases (c == Value.type "enumerate") <;> (wp_walk using it; exact ⟨_, rfl, h⟩)
    · wp_walk using it
      exact ⟨_, rfl, h⟩
theorem call_enumT {prog : Program} {w : World} {A : Around} {E : Value → Shared → Prop} {s : Shared} {l : Addr} {items : Array Value} {Q : Value → Shared → Prop} (hT : s.heap.IsTuple l items)
    (h : ∀ h', IsEnum h' (s.heap.objs.size + 1) s.heap.objs.size 0 .none → h'.IsTupleIter s.heap.objs.size l 0 → (∀ b o, s.heap.get? b = some o → h'.get? b = some o) → Q (.ref (s.heap.objs.size + 1)) { s with heap := h' }) :
    wpAny (model prog w) A (call (.type "enumerate") [.ref l]) Q E s := by
  refine callType_new F.called_enumerate (by decide) (F.typeCall_enumerate_1 _) (F.newCall_enumerate_1 _) (fun obj => F.args_object_init_2 obj _) F.entry_enumerate_new (new_enumT l items) ⟨hT, ?_⟩
  have z : (s.heap.push { cls := .type "tuple_iterator", data := .fields #[.ref l, .int 0 0] }).objs.size = s.heap.objs.size + 1 := Heap.size_push ..
  show _ ∧ _
  rw [z]
  have he := Heap.get?_push_size (s.heap.push { cls := .type "tuple_iterator", data := .fields #[.ref l, .int 0 0] }) (o := { cls := .type "enumerate", data := .fields #[.none, .bool false, .ref s.heap.objs.size, rawInt 0, .none, .none] }) rfl
  rw [z] at he
  exact ⟨⟨_, he, rfl⟩, h _ he ⟨_, Heap.get?_push_of_some _ (Heap.get?_push_size _ rfl), rfl, rfl⟩ fun b o x => Heap.get?_push_of_some _ (Heap.get?_push_of_some _ x)⟩
theorem pi_enumT {X : Cx} {e : Expr} {ta : TA} {p pos tpos : Pos} {elts : List Expr} {kk : Nat} (hg : Gl X "enumerate") (hm : X.mg "enumerate" = none) (ha : PA X [e] ta) (hs : starEach [e] X.env = [(false, eval e X.env)] := by rfl) :
    PI X (.Tuple elts kk tpos) (.Call (.Name "enumerate" p) [e] [] pos) (iEnT ta) := by
  refine ⟨fun pins s σ H R I h => Call_ (ld_blt I hg hm boot_enumerate (PyProof.Rows.callWith_type1 (thn (ha.run pos pins s σ H _ I h) fun us s1 ⟨vs, H1, I1, r1, q1⟩ => ?_) hs rfl))⟩
  obtain ⟨a, xs, rfl, hq, q⟩ := q1
  obtain ⟨u, rfl, ru⟩ := vals1 r1
  cases ru
  obtain ⟨its, rv, ht, hz⟩ := I1.tuple (SqT.of hq)
  refine call_enumT ht fun h' he hit hk => wpAny_pyIter_enum he ?_
  have I2 : Inv X pins σ H1 { s1 with heap := h' } := I1.kept (t' := s1.toks) hk
  refine ⟨s1.heap.objs.size + 1, [s1.heap.objs.size + 1, s1.heap.objs.size], _, _, H1, rfl, I2, turn_enumT a (s1.heap.objs.size + 1) s1.heap.objs.size, ⟨⟨.none, he⟩, hit, Nat.succ_ne_self _⟩, fun b hb => ?_, q⟩
  have le : s1.heap.objs.size ≤ b := by
    rcases List.mem_cons.mp hb with z | z
    · rw [z]; exact Nat.le_succ _
    · rw [List.mem_singleton.mp z]; exact Nat.le_refl _
  exact I1.fpOk le (I1.hok.fresh le)
theorem walk_enT {a : Addr} {xs : List V} : Walk (ItE a) xs.length (fun H => H a = some (.tup xs)) (YPair (fun i => some (.int (i : Nat))) (fun i => xs[i]?)) := by
  refine ⟨fun i H hi q => ⟨xs, xs[i], q, List.getElem?_eq_getElem hi⟩, fun H q => ⟨xs, q, rfl⟩, fun i H v H' _ q y => ?_⟩
  obtain ⟨T, x, h1, h2, h3, h4⟩ := y
  exact ⟨T, .int (i : Nat), x, h1, h2, h3, rfl, h4 xs q⟩
/-! max(xs, default=0), min(xs, default=None) -/
def rMaxD (K : PySem.W.Frag) (ta : TE) : TE := fun σ H Q => ta σ H fun x H1 => ∃ (a : Addr) (ns : List Int) (m : Int), x = .ref a ∧ SqL K H1 a (ns.map V.int) ∧ (ns = [] → m = 0) ∧ (ns ≠ [] → m ∈ ns ∧ ∀ y ∈ ns, y ≤ m) ∧ Q (.int m) H1
theorem maxOf_ok : ∀ (xs : List Int) (x : Int), PySem.W.maxOf x xs ∈ x :: xs ∧ ∀ y ∈ x :: xs, y ≤ PySem.W.maxOf x xs
  | [], x => ⟨List.mem_cons_self, fun y hy => by rw [List.mem_singleton.mp hy]; exact Int.le_refl _⟩
  | z :: xs, x => by
    have e : PySem.W.maxOf x (z :: xs) = PySem.W.maxOf (if x < z then z else x) xs := by
      unfold PySem.W.maxOf
      rw [List.foldl_cons]
      congr 1
      show (if decide (x < z) = true then z else x) = _
      by_cases h : x < z <;> simp [h]
    rw [e]
    by_cases h : x < z
    · rw [if_pos h]
      obtain ⟨h1, h2⟩ := maxOf_ok xs z
      have h0 := h2 _ List.mem_cons_self
      refine ⟨List.mem_cons_of_mem _ h1, fun y hy => ?_⟩
      rcases List.mem_cons.mp hy with q | q
      · omega
      · exact h2 y q
    · rw [if_neg h]
      obtain ⟨h1, h2⟩ := maxOf_ok xs x
      have h0 := h2 _ List.mem_cons_self
      refine ⟨?_, fun y hy => ?_⟩
      · rcases List.mem_cons.mp h1 with q | q
        · rw [q]; exact List.mem_cons_self
        · exact List.mem_cons_of_mem _ (List.mem_cons_of_mem _ q)
      · rcases List.mem_cons.mp hy with q | q
        · omega
        · rcases List.mem_cons.mp q with q | q
          · omega
          · exact h2 y (List.mem_cons_of_mem _ q)
theorem pe_maxD {X : Cx} {e : Expr} {te : TE} {k : Nat} {p pos kp cp : Pos} (hu : X.A.units + 64 < cLine) (hc : X.calm = true) (hg : Gl X "max") (hm : X.mg "max" = none) (he : PE X e te)
    (hs : starEach (e :: []) X.env = (false, eval e X.env) :: starEach [] X.env := by rfl) (h1 : backTo pos (starEach [e] X.env) = (false, eval e X.env) :: backTo pos (starEach [] X.env) := by rfl)
    (h2 : (backTo pos (starEach [e] X.env)).any (·.1) = false := by rfl) :
    PE X (.Call (.Name "max" p) [e] [⟨some "default", .Constant (.int 0) k cp, kp⟩] pos) (rMaxD X.K te) := by
  refine ⟨fun pins s σ H Q I h => ?_⟩
  refine wpAny_Call_Name_kw (ld_blt I hg hm (u := .builtin "max") (by decide +kernel) (callWith_kw ?_ h1 h2))
  refine args_cons (thn (he.run pins s σ H _ I h) fun v s1 ⟨x, H1, I1, r1, q1⟩ => args_nil ?_) hs
  obtain ⟨a, ns, m, rfl, hq, h0, h1, q⟩ := q1
  cases r1
  refine kws_cons (wpAny_Constant_int (kws_nil ?_))
  have I2 := I1.tok (s1.toks + 1)
  obtain ⟨its, rv, pl, hz⟩ := I2.list hq
  show wpAny _ _ (call (.builtin "max") [.ref a] [(Str.ofString "default", .int 0 _)]) _ _ _
  refine PySem.W.max_list_datum_default (α := Int) (xs := ns) (I.ok.hd hc) pl.isList (PySem.W.HoldAll.of_ints (by simpa using intsAre_of rv)) (by show X.A.units + 1 + 0 < cLine; omega) (fun e h' tk hk => ?_) fun y ys i v h' tk e hi hv hk => ?_
  · rw [h0 e] at q
    exact ⟨.int 0, H1, I2.kept (t' := tk) hk, ⟨_, rfl⟩, q⟩
  · obtain ⟨t, rfl⟩ := PySem.W.int_of_holds hv
    subst e
    obtain ⟨g1, g2⟩ := maxOf_ok ys y
    obtain ⟨m1, m2⟩ := h1 (by simp)
    have e2 : PySem.W.maxOf y ys = m := Int.le_antisymm (m2 _ g1) (g2 _ m1)
    exact ⟨.int (PySem.W.maxOf y ys), H1, I2.kept (t' := tk) hk, ⟨t, rfl⟩, by rw [e2]; exact q⟩
/-- min of an empty list, with None -/
def rMinN (K : PySem.W.Frag) (ta : TE) : TE := fun σ H Q => ta σ H fun x H1 => ∃ (a : Addr), x = .ref a ∧ SqL K H1 a [] ∧ Q .non H1
theorem pe_minN {X : Cx} {e : Expr} {te : TE} {k : Nat} {p pos kp cp : Pos} (hu : X.A.units + 64 < cLine) (hc : X.calm = true) (hg : Gl X "min") (hm : X.mg "min" = none) (he : PE X e te)
    (hs : starEach (e :: []) X.env = (false, eval e X.env) :: starEach [] X.env := by rfl) (h1 : backTo pos (starEach [e] X.env) = (false, eval e X.env) :: backTo pos (starEach [] X.env) := by rfl)
    (h2 : (backTo pos (starEach [e] X.env)).any (·.1) = false := by rfl) :
    PE X (.Call (.Name "min" p) [e] [⟨some "default", .Constant .none k cp, kp⟩] pos) (rMinN X.K te) := by
  refine ⟨fun pins s σ H Q I h => ?_⟩
  refine wpAny_Call_Name_kw (ld_blt I hg hm (u := .builtin "min") (by decide +kernel) (callWith_kw ?_ h1 h2))
  refine args_cons (thn (he.run pins s σ H _ I h) fun v s1 ⟨x, H1, I1, r1, q1⟩ => args_nil ?_) hs
  obtain ⟨a, rfl, hq, q⟩ := q1
  cases r1
  refine kws_cons (Constant_none (kws_nil ?_))
  obtain ⟨its, rv, pl, hz⟩ := I1.list hq
  have e0 := rv.zero
  subst e0
  show wpAny _ _ (call (.builtin "min") [.ref a] [(Str.ofString "default", .none)]) _ _ _
  refine PySem.W.min_list_datum_default (α := Int) (xs := []) (I.ok.hd hc) pl.isList (PySem.W.HoldAll.nil) (by show X.A.units + 1 + 0 < cLine; omega) (fun e h' tk hk => ?_) fun y ys i v h' tk e hi hv hk => by cases e
  exact ⟨.non, H1, I1.kept (t' := tk) hk, rfl, q⟩
/-! set(xs) of a list of numbers, as the layer knows sets; len of it -/
abbrev setObj (w : World) : Obj := { cls := .type "set", dict := none, data := .set #[] 0 (.fresh 0 0 (!w.params.followText "set-order")) }
set_option maxHeartbeats 16000000 in
theorem call_setL {P : Program} {w : World} {A : Around} {E : Value → Shared → Prop} {s : Shared} {l : Addr} {items : Array Value} (ns : List Int) {Q : Value → Shared → Prop} (hh : A.handled = none) (hl : s.heap.IsList l items) (hit : IntsAre items.toList ns)
    (hb : ns.length + 1 < scanBound)
    (h : ∀ (h' : Heap) (tk c : Nat), SetR w h' s.heap.objs.size (fun j => decide (j ∈ ns)) c → (∀ b o, s.heap.get? b = some o → h'.get? b = some o) → Q (.ref s.heap.objs.size) { s with heap := h', toks := tk }) :
    wpAny (model P w) A (call (.type "set") [.ref l]) Q E s := by
  have len : items.size = ns.length := by
    rw [← Array.length_toList]
    exact IntsAre.length hit
  obtain ⟨_, _, m0⟩ := F.called_set.mro
  have m1 := F.called_set.made
  have m2 := F.called_set.sub
  have m3 := F.called_set.notType
  have m4 := F.called_set.canCreate
  have m5 := F.typeCall_set_1 (.ref l)
  refine wpAny_call (codeAny_of_tree (show wpAny _ _ (callAny (.type "set") _) _ _ _ from ?_))
  refine wpAny_pure ⟨Code.quiet_builtin _ (by decide +kernel), codeAny_builtin F.entry_type_call ?_⟩
  rw [Around.under_plain (weight_type_call_type "set" [.ref l] []) rfl]
  repeat (any_goals (first | assumption | wp_step))
  refine codeAny_mono (code_set_led1 (.ref l) (E := E) (Q₁ := fun o s1 => o = .ref s.heap.objs.size ∧ s1 = { s with heap := s.heap.push (setObj w) }) ⟨rfl, rfl⟩) fun r s1 hr => ?_
  match r, hr with
  | .error e, hr => exact hr
  | .ok (.ret o), hr =>
    obtain ⟨rfl, rfl⟩ := hr
    have g0 : (s.heap.push (setObj w)).get? s.heap.objs.size = some (setObj w) := Heap.get?_push_size _ rfl
    have ty : Shared.TypeIs { s with heap := s.heap.push (setObj w) } (.ref s.heap.objs.size) "set" := ⟨_, g0, rfl⟩
    have m6 := F.called_set.init.lookup
    have m7 := F.called_set.init.bind (.ref s.heap.objs.size)
    repeat (any_goals (first | assumption | wp_step))
    refine codeAny_mono (codeAny_call_builtin (R := wants (fun r s2 => r = .none ∧ ∃ h' tk c, s2 = { s with heap := h', toks := tk } ∧ SetR w h' s.heap.objs.size (fun j => decide (j ∈ ns)) c ∧ (∀ b o, s.heap.get? b = some o → h'.get? b = some o)) E)
      F.called_set.init.plain F.entry_set_init (check_set_init_1 ty ?_)) fun r2 s2 hr2 => ?_
    · obtain ⟨⟨cl, dd, da, sl⟩, e0, hc, k, hd⟩ := hl
      simp only at hc hd
      subst hc hd
      have e1 : (s.heap.push (setObj w)).get? l = some { cls := .type "list", dict := dd, data := .seq items k, slots := sl } := Heap.get?_push_of_some _ e0
      have f1 := F.sub_list_set
      have f2 := F.sub_list_frozenset
      have f3 : (Value.type "list" == Value.type "dict") = false := by decide
      have pl : (s.heap.push (setObj w)).IsList l items := ⟨_, e1, rfl, k, rfl⟩
      unfold Builtin.«set.__init__» noKeywords Builtin.Frozenset.updateFrom
      generalize hPI : pyIter = PI
      wp_walk
      subst hPI
      refine wpAny_pyIter_list pl (wpAny_bind (wpAny_runValue ?_))
      have lt := Heap.lt_size e0
      have sz : (s.heap.push (setObj w)).objs.size = s.heap.objs.size + 1 := Heap.size_push ..
      have n1 : l ≠ (s.heap.push (setObj w)).objs.size := by
        rw [sz]
        exact Nat.ne_of_lt (Nat.lt_succ_of_lt lt)
      have n2 : s.heap.objs.size ∉ [(s.heap.push (setObj w)).objs.size, l] := fun z => by
        rw [sz] at z
        rcases List.mem_cons.mp z with z | z
        · omega
        · exact absurd (List.mem_singleton.mp z) (Nat.ne_of_gt lt)
      have vals : ∀ (i : Nat) (v : Value), items[i]? = some v → ∃ z t, ns[i]? = some z ∧ v = .int z t := fun i v hv => by
        have hi : i < ns.length := by
          rw [← len]
          exact (Array.getElem?_eq_some_iff.mp hv).1
        obtain ⟨t, e⟩ := IntsAre.int_at hit i v (by rw [Array.getElem?_toList]; exact hv)
        refine ⟨_, t, List.getElem?_eq_getElem hi, ?_⟩
        rw [e, List.getD_eq_getElem?_getD, List.getElem?_eq_getElem hi]
        rfl
      refine set_update_ints ((Walks.list (A := A.in1.in1.in1) (by simp [hh]) _ l n1 items).toS) s.heap.objs.size n2 ns len hb vals (items.size - 0) 0 _ (Nat.sub_zero _) (Nat.zero_le _) ⟨⟨_, Heap.get?_push_size _ rfl, rfl, rfl⟩, pl.push _⟩
        ⟨0, Nat.le_refl 0, setR_new_at (Heap.get?_push_of_some _ g0)⟩ fun s' c hm _ hS => ?_
      obtain ⟨h', g', d', tk', os'⟩ := s'
      obtain rfl : g' = s.gens := hm.gens
      obtain rfl : d' = s.drawn := hm.drawn
      obtain rfl : os' = s.os := hm.os
      show wpAny _ _ _ _ _ _
      refine wpAny_pure (show wpAny _ _ (ret Value.none) _ _ _ from wpAny_pure ⟨rfl, h', tk', c, rfl, hS, fun b o e => ?_⟩)
      have lb := Heap.lt_size e
      refine hm.heap b o (fun z => ?_) (Heap.get?_push_of_some _ (Heap.get?_push_of_some _ e))
      rcases List.mem_cons.mp z with z | z
      · exact absurd z (Nat.ne_of_lt lb)
      · rw [List.mem_singleton, sz] at z
        exact absurd z (Nat.ne_of_lt (Nat.lt_succ_of_lt lb))
    · match r2, hr2 with
      | .error e, hr2 => exact hr2
      | .ok (.ret v), hr2 =>
        obtain ⟨rfl, h', tk, c, rfl, hS, hk⟩ := hr2
        have fin := h h' tk c hS hk
        repeat (any_goals (first | assumption | wp_step))
      | .ok .next, hr2 => exact hr2.elim
      | .ok .brk, hr2 => exact hr2.elim
      | .ok .cont, hr2 => exact hr2.elim
  | .ok .next, hr => exact hr.elim
  | .ok .brk, hr => exact hr.elim
  | .ok .cont, hr => exact hr.elim
/-- a set of numbers and a list without repetitions of its members -/
theorem setR_card {w : World} {h : Heap} {a : Addr} {S : Int → Bool} {c : Nat} {ms : List Int} (R : SetR w h a S c) (nd : ms.Nodup) (hm : ∀ k, S k = true ↔ k ∈ ms) : c = ms.length := by
  obtain ⟨o, es, ep, t, _, _, _, _, hn, hS, _, _, hc, _⟩ := R
  have e := ((List.perm_ext_iff_of_nodup hn nd).mpr fun k => by rw [← hS k, hm k]).length_eq
  rw [List.length_map, Array.length_toList, hc] at e
  exact e
def rSetL (K : PySem.W.Frag) (w : World) : List V → Hp → VK → Prop := fun xs H Q => ∃ (l : Addr) (ns : List Int), xs = [.ref l] ∧ SqL K H l (ns.map V.int) ∧ ns.length ≤ 1000 ∧
  ∀ p c, H p = none → (∀ ms : List Int, ms.Nodup → (∀ k, k ∈ ms ↔ k ∈ ns) → c = ms.length) → Q (.ref p) (upd H p (SetO w p (fun j => decide (j ∈ ns)) c))
theorem cr_setL {X : Cx} (hc : X.calm = true) : CallR X (.type "set") (rSetL X.K X.w) := by
  intro pins s σ H xs us Q I r h
  obtain ⟨l, ns, rfl, hq, hl, q⟩ := h
  obtain ⟨u, rfl, ru⟩ := vals1 r
  cases ru
  obtain ⟨its, rv, pl, hz⟩ := I.list hq
  refine call_setL ns (I.ok.hd hc) pl.isList (by simpa using intsAre_of rv) (by unfold scanBound; omega) fun h' tk c hS hk => ?_
  refine ⟨.ref s.heap.objs.size, _, I.laid (t' := tk) hk (Nat.le_refl _) (setO_new hS), rfl, q _ c (I.hok.fresh (Nat.le_refl _)) fun ms nd hm => setR_card hS nd fun k => by rw [decide_eq_true_eq]; exact (hm k).symm⟩
def rLenSet (w : World) : List V → Hp → VK → Prop := fun xs H Q => ∃ (a : Addr) (S : Int → Bool) (n : Nat), xs = [.ref a] ∧ H a = some (SetO w a S n) ∧ n ≤ 1000 ∧ Q (.int n) H
theorem cr_lenSet {X : Cx} : CallR X (.builtin "len") (rLenSet X.w) := by
  intro pins s σ H xs us Q I r h
  obtain ⟨a, S, n, rfl, ha, hn, q⟩ := h
  obtain ⟨u, rfl, ru⟩ := vals1 r
  cases ru
  obtain ⟨o, es, ep, t, ho, hex, hd, _, _, _, _, hf, hc, _⟩ := setO_get I ha
  refine call_len_set ho hex hd hf (by rw [hc]; omega) ?_
  rw [hc]
  exact ⟨.int n, H, I.tok _, ⟨_, rfl⟩, q⟩
end K87X
/-! webs, degrees -/
namespace K87
abbrev Tie := Nat × Nat
def touch (e : Tie) (p : Nat) : Bool := e.1 == p || e.2 == p
def tieN (E : List Tie) (t : Nat) : Tie := E.getD t (0, 0)
def far (e : Tie) (p : Nat) : Nat := if p = e.1 then e.2 else e.1
def tiesAt (E : List Tie) (p : Nat) : List Nat := (List.range E.length).filter fun t => touch (tieN E t) p
def deg (E : List Tie) (p : Nat) : Nat := (tiesAt E p).length
def maxL (l : List Nat) : Nat := l.foldr max 0
def mostAt (n : Nat) (E : List Tie) : Nat := maxL ((List.range n).map (deg E))
/-- a web's ties are such -/
def WOk (n : Nat) (E : List Tie) : Prop := ∀ e ∈ E, e.1 < e.2 ∧ e.2 < n
/-- a side for each place -/
def Two (E : List Tie) (s : Nat → Bool) : Prop := ∀ e ∈ E, s e.1 ≠ s e.2

theorem touch_iff {e : Tie} {p : Nat} : touch e p = true ↔ e.1 = p ∨ e.2 = p := by
  unfold touch; simp
theorem tieN_mem {E : List Tie} {t : Nat} (h : t < E.length) : tieN E t ∈ E := by
  unfold tieN
  rw [List.getD_eq_getElem?_getD, List.getElem?_eq_getElem h]
  exact List.getElem_mem h
theorem tieN_get {E : List Tie} {t : Nat} (h : t < E.length) : E[t]? = some (tieN E t) := by
  unfold tieN
  rw [List.getD_eq_getElem?_getD, List.getElem?_eq_getElem h]; rfl
theorem mem_tieN {E : List Tie} {e : Tie} (h : e ∈ E) : ∃ t, t < E.length ∧ tieN E t = e := by
  obtain ⟨t, ht, e1⟩ := List.getElem_of_mem h
  refine ⟨t, ht, ?_⟩
  unfold tieN
  rw [List.getD_eq_getElem?_getD, List.getElem?_eq_getElem ht]; exact e1
theorem mem_tiesAt {E : List Tie} {p t : Nat} : t ∈ tiesAt E p ↔ t < E.length ∧ touch (tieN E t) p = true := by
  unfold tiesAt; simp [List.mem_filter]
theorem far_touch {e : Tie} {p : Nat} (h : touch e p = true) : touch e (far e p) = true := by
  rw [touch_iff] at h ⊢
  unfold far; split
  · right; rfl
  · left; rfl
theorem far_far {e : Tie} {p : Nat} (hn : e.1 ≠ e.2) (h : touch e p = true) : far e (far e p) = p := by
  rw [touch_iff] at h
  unfold far
  by_cases h1 : p = e.1
  · rw [if_pos h1, if_neg (fun q => hn q.symm)]; exact h1.symm
  · rw [if_neg h1, if_pos rfl]
    rcases h with h | h
    · exact absurd h.symm h1
    · exact h
theorem far_ne {e : Tie} {p : Nat} (hn : e.1 ≠ e.2) : far e p ≠ p := by
  unfold far; split
  · rename_i h; intro q; exact hn (h.symm.trans q.symm)
  · rename_i h; exact fun q => h q.symm
theorem far_sum {e : Tie} {p : Nat} (h : touch e p = true) : e.1 + e.2 = far e p + p := by
  rw [touch_iff] at h
  unfold far
  by_cases h1 : p = e.1
  · rw [if_pos h1, h1]; omega
  · rw [if_neg h1]
    rcases h with h | h
    · exact absurd h.symm h1
    · rw [h]
/-- the ends of a tie -/
theorem touch_cases {e : Tie} {p q : Nat} (h : touch e p = true) (h2 : touch e q = true) : q = p ∨ q = far e p := by
  rw [touch_iff] at h h2
  unfold far
  by_cases h1 : p = e.1
  · rw [if_pos h1]
    rcases h2 with h2 | h2
    · exact .inl (h2.symm.trans h1.symm)
    · exact .inr h2.symm
  · rw [if_neg h1]
    rcases h with h | h
    · exact absurd h.symm h1
    · rcases h2 with h2 | h2
      · exact .inr h2.symm
      · exact .inl (h2.symm.trans h)
theorem far_lt {n : Nat} {E : List Tie} (w : WOk n E) {t p : Nat} (h : t < E.length) : far (tieN E t) p < n := by
  have q := w _ (tieN_mem h)
  unfold far; split
  · exact q.2
  · exact Nat.lt_trans q.1 q.2
theorem touch_lt {n : Nat} {E : List Tie} (w : WOk n E) {t p : Nat} (h : t < E.length) (ht : touch (tieN E t) p = true) : p < n := by
  have q := w _ (tieN_mem h)
  rw [touch_iff] at ht
  rcases ht with ht | ht <;> omega
theorem ends_ne {n : Nat} {E : List Tie} (w : WOk n E) {t : Nat} (h : t < E.length) : (tieN E t).1 ≠ (tieN E t).2 := by
  have q := w _ (tieN_mem h)
  omega
theorem side_far {E : List Tie} {s : Nat → Bool} (hs : Two E s) {t p : Nat} (h : t < E.length) (ht : touch (tieN E t) p = true) : s (far (tieN E t) p) = !s p := by
  have q := hs _ (tieN_mem h)
  rw [touch_iff] at ht
  have key : ∀ a b : Bool, a ≠ b → b = !a := by decide
  unfold far
  by_cases h1 : p = (tieN E t).1
  · rw [if_pos h1, h1]; exact key _ _ q
  · rw [if_neg h1]
    rcases ht with ht | ht
    · exact absurd ht.symm h1
    · rw [← ht]; exact key _ _ (Ne.symm q)
theorem Two.ne {E : List Tie} {s : Nat → Bool} (hs : Two E s) {e : Tie} (h : e ∈ E) : e.1 ≠ e.2 := fun q => hs e h (by rw [q])

/-! sums, greatest -/
theorem le_maxL : ∀ {l : List Nat} {x : Nat}, x ∈ l → x ≤ maxL l
  | [], x, h => by simp at h
  | a :: l, x, h => by
    unfold maxL
    rw [List.foldr_cons]
    rcases List.mem_cons.mp h with rfl | h
    · exact Nat.le_max_left _ _
    · exact Nat.le_trans (le_maxL h) (Nat.le_max_right _ _)
theorem maxL_mem : ∀ {l : List Nat}, l ≠ [] → maxL l ∈ l
  | [], h => absurd rfl h
  | [a], _ => by simp [maxL]
  | a :: b :: l, _ => by
    have ih := maxL_mem (l := b :: l) (by simp)
    show max a (maxL (b :: l)) ∈ _
    by_cases h : a ≤ maxL (b :: l)
    · rw [Nat.max_eq_right h]; exact List.mem_cons_of_mem _ ih
    · rw [Nat.max_eq_left (by omega)]; exact List.mem_cons_self
theorem deg_le_most {n : Nat} {E : List Tie} {p : Nat} (h : p < n) : deg E p ≤ mostAt n E :=
  le_maxL (List.mem_map.mpr ⟨p, List.mem_range.mpr h, rfl⟩)
theorem most_at_some {n : Nat} {E : List Tie} (h : 0 < n) : ∃ p, p < n ∧ deg E p = mostAt n E := by
  have q := maxL_mem (l := (List.range n).map (deg E)) (by simp; omega)
  obtain ⟨p, hp, e⟩ := List.mem_map.mp q
  exact ⟨p, List.mem_range.mp hp, e⟩
theorem most_pos {n : Nat} {E : List Tie} (h : 0 < mostAt n E) : 0 < n := by
  cases n with
  | zero => simp [mostAt, maxL] at h
  | succ n => omega
/-- what is at least each count and is one of them is the greatest -/
theorem most_eq {n m : Nat} {E : List Tie} (h1 : ∀ p, p < n → deg E p ≤ m) (h2 : 0 < m → ∃ p, p < n ∧ deg E p = m) : mostAt n E = m := by
  have le : mostAt n E ≤ m := by
    by_cases hn : 0 < n
    · obtain ⟨p, hp, e⟩ := most_at_some (E := E) hn
      rw [← e]; exact h1 p hp
    · have : n = 0 := by omega
      subst this; simp [mostAt, maxL]
  by_cases hm : 0 < m
  · obtain ⟨p, hp, e⟩ := h2 hm
    have := deg_le_most (E := E) hp
    omega
  · omega
theorem most_le {n m : Nat} {E : List Tie} (h1 : ∀ p, p < n → deg E p ≤ m) : mostAt n E ≤ m := by
  by_cases hn : 0 < n
  · obtain ⟨p, hp, e⟩ := most_at_some (E := E) hn
    rw [← e]; exact h1 p hp
  · have : n = 0 := by omega
    subst this; simp [mostAt, maxL]
theorem filter_range_succ (f : Nat → Bool) (m : Nat) : (List.range (m + 1)).filter f = (if f 0 then [0] else []) ++ ((List.range m).filter fun t => f (t + 1)).map (· + 1) := by
  rw [List.range_succ_eq_map, List.filter_cons, List.filter_map]
  split <;> rfl
/-- a count of places by the list itself -/
theorem count_range (f : Tie → Bool) : ∀ E : List Tie, ((List.range E.length).filter fun t => f (tieN E t)).length = E.countP f
  | [] => rfl
  | e :: E => by
    have ih := count_range f E
    rw [List.length_cons, filter_range_succ, List.length_append, List.length_map, List.countP_cons]
    have e1 : ((List.range E.length).filter fun t => f (tieN (e :: E) (t + 1))) = (List.range E.length).filter fun t => f (tieN E t) := rfl
    rw [e1, ih]
    show (if f e = true then [0] else []).length + _ = _
    split <;> simp <;> omega
theorem deg_count (E : List Tie) (p : Nat) : deg E p = E.countP fun e => touch e p := count_range (fun e => touch e p) E
theorem deg_pos {E : List Tie} {t p : Nat} (h : t < E.length) (ht : touch (tieN E t) p = true) : 0 < deg E p := by
  unfold deg
  exact List.length_pos_of_mem (mem_tiesAt.mpr ⟨h, ht⟩)
theorem most_pos_of {n : Nat} {E : List Tie} (w : WOk n E) (h : 0 < E.length) : 0 < mostAt n E := by
  have ht : touch (tieN E 0) (tieN E 0).1 = true := touch_iff.mpr (.inl rfl)
  exact Nat.lt_of_lt_of_le (deg_pos h ht) (deg_le_most (touch_lt w h ht))
theorem countP_le_len (E : List Tie) (p : Nat) : deg E p ≤ E.length := by
  rw [deg_count]; exact List.countP_le_length
theorem most_le_len (n : Nat) (E : List Tie) : mostAt n E ≤ E.length := most_le fun p _ => countP_le_len E p
theorem tiesAt_nodup (E : List Tie) (p : Nat) : (tiesAt E p).Nodup := List.Nodup.sublist (List.filter_sublist) List.nodup_range
theorem tiesAt_len (E : List Tie) (p : Nat) : (tiesAt E p).length ≤ E.length := countP_le_len E p

/-! counted twice -/
def sumL (l : List Nat) : Nat := l.foldr (· + ·) 0
theorem sumL_cons (a : Nat) (l : List Nat) : sumL (a :: l) = a + sumL l := rfl
theorem sumL_map_add {α : Type} (f g : α → Nat) : ∀ l : List α, sumL (l.map fun x => f x + g x) = sumL (l.map f) + sumL (l.map g)
  | [] => rfl
  | a :: l => by
    have ih := sumL_map_add f g l
    simp only [List.map_cons, sumL_cons, ih]; omega
theorem sumL_map_zero {α : Type} : ∀ l : List α, sumL (l.map fun _ => 0) = 0
  | [] => rfl
  | a :: l => by
    have ih := sumL_map_zero l
    simp only [List.map_cons, sumL_cons, ih]
theorem sumL_le {α : Type} (f g : α → Nat) : ∀ l : List α, (∀ x ∈ l, f x ≤ g x) → sumL (l.map f) ≤ sumL (l.map g)
  | [], _ => Nat.le_refl _
  | a :: l, h => by
    have ih := sumL_le f g l fun x hx => h x (List.mem_cons_of_mem _ hx)
    have h0 := h a List.mem_cons_self
    simp only [List.map_cons, sumL_cons]; omega
theorem sumL_const {α : Type} (f : α → Nat) (c : Nat) : ∀ l : List α, (∀ x ∈ l, f x = c) → sumL (l.map f) = c * l.length
  | [], _ => by simp [sumL]
  | a :: l, h => by
    have ih := sumL_const f c l fun x hx => h x (List.mem_cons_of_mem _ hx)
    have h0 := h a List.mem_cons_self
    simp only [List.map_cons, sumL_cons, ih, h0, List.length_cons, Nat.mul_succ]; omega
theorem sumL_le_const {α : Type} (f : α → Nat) (c : Nat) : ∀ l : List α, (∀ x ∈ l, f x ≤ c) → sumL (l.map f) ≤ c * l.length
  | [], _ => by simp [sumL]
  | a :: l, h => by
    have ih := sumL_le_const f c l fun x hx => h x (List.mem_cons_of_mem _ hx)
    have h0 := h a List.mem_cons_self
    simp only [List.map_cons, sumL_cons, List.length_cons, Nat.mul_succ]; omega
theorem count_swap {α β : Type} (r : α → β → Bool) (B : List β) : ∀ A : List α, sumL (A.map fun a => B.countP fun b => r a b) = sumL (B.map fun b => A.countP fun a => r a b)
  | [] => by
    show 0 = sumL (B.map fun _ => 0)
    exact (sumL_map_zero B).symm
  | a :: A => by
    have ih := count_swap r B A
    simp only [List.map_cons, sumL_cons, ih]
    have e1 : ∀ b, (a :: A).countP (fun a => r a b) = (if r a b then 1 else 0) + A.countP (fun a => r a b) := fun b => by
      rw [List.countP_cons, Nat.add_comm]
    simp only [e1, sumL_map_add]
    congr 1
    induction B with
    | nil => rfl
    | cons b B ihB =>
      rw [List.countP_cons, List.map_cons, sumL_cons, ← ihB]
      · omega
      · exact count_swap r B A
theorem sum_deg (E : List Tie) (A : List Nat) : sumL (A.map (deg E)) = sumL (E.map fun e => A.countP fun p => touch e p) := by
  have e1 : A.map (deg E) = A.map fun p => E.countP fun e => touch e p := List.map_congr_left fun p _ => deg_count E p
  rw [e1]
  exact count_swap (fun p e => touch e p) E A

/-- two lists without repetitions and with the same members are of one length -/
theorem len_of_mem {α : Type} [DecidableEq α] {l l' : List α} (h : l.Nodup) (h' : l'.Nodup) (hm : ∀ x, x ∈ l ↔ x ∈ l') : l.length = l'.length :=
  ((List.perm_ext_iff_of_nodup h h').mpr hm).length_eq
theorem len_le_of_sub {α : Type} [DecidableEq α] : ∀ {l l' : List α}, l.Nodup → (∀ x ∈ l, x ∈ l') → l.length ≤ l'.length
  | [], l', _, _ => Nat.zero_le _
  | a :: l, l', h, hs => by
    obtain ⟨h1, h2⟩ := List.nodup_cons.mp h
    have ha : a ∈ l' := hs a List.mem_cons_self
    have ih := len_le_of_sub (l := l) (l' := l'.erase a) h2 fun x hx => by
      have hx' := hs x (List.mem_cons_of_mem _ hx)
      have ne : x ≠ a := fun e => h1 (e ▸ hx)
      exact (List.mem_erase_of_ne ne).mpr hx'
    rw [List.length_erase_of_mem ha] at ih
    have := List.length_pos_of_mem ha
    rw [List.length_cons]; omega
theorem len_le_range {l : List Nat} {n : Nat} (h : l.Nodup) (hs : ∀ x ∈ l, x < n) : l.length ≤ n := by
  have := len_le_of_sub (l' := List.range n) h fun x hx => List.mem_range.mpr (hs x hx)
  rwa [List.length_range] at this
theorem nodup_snoc {α : Type} {l : List α} {a : α} (h : l.Nodup) (ha : a ∉ l) : (l ++ [a]).Nodup := by
  rw [List.nodup_append]
  refine ⟨h, by simp, fun x hx y hy => ?_⟩
  rw [List.mem_singleton] at hy
  subst hy
  exact fun e => ha (e ▸ hx)
theorem nodup_map_inj {α β : Type} {f : α → β} : ∀ {l : List α}, l.Nodup → (∀ a ∈ l, ∀ b ∈ l, f a = f b → a = b) → (l.map f).Nodup
  | [], _, _ => by simp
  | a :: l, h, hi => by
    obtain ⟨h1, h2⟩ := List.nodup_cons.mp h
    rw [List.map_cons, List.nodup_cons]
    refine ⟨fun m => ?_, nodup_map_inj h2 fun x hx y hy e => hi x (List.mem_cons_of_mem _ hx) y (List.mem_cons_of_mem _ hy) e⟩
    obtain ⟨b, hb, e⟩ := List.mem_map.mp m
    have := hi b (List.mem_cons_of_mem _ hb) a List.mem_cons_self e
    exact h1 (this ▸ hb)
end K87
/-! sides by going from place to place -/
namespace K87
theorem mem_of_lookup {α : Type} : ∀ {l : List (Nat × α)} {p : Nat} {a : α}, l.lookup p = some a → (p, a) ∈ l
  | [], p, a, h => by simp at h
  | (q, b) :: l, p, a, h => by
    rw [List.lookup_cons] at h
    by_cases e : p = q
    · subst e
      simp at h; subst h; exact List.mem_cons_self
    · have e' : (p == q) = false := by simpa using e
      rw [e'] at h
      exact List.mem_cons_of_mem _ (mem_of_lookup h)
theorem lookup_none {α : Type} : ∀ {l : List (Nat × α)} {p : Nat}, l.lookup p = none ↔ p ∉ l.map (·.1)
  | [], p => by simp
  | (q, b) :: l, p => by
    rw [List.lookup_cons]
    by_cases e : p = q
    · subst e; simp
    · have e' : (p == q) = false := by simpa using e
      rw [e']
      show l.lookup p = none ↔ _
      rw [lookup_none]
      simp [e]
theorem lookup_some {α : Type} {l : List (Nat × α)} {p : Nat} (h : p ∈ l.map (·.1)) : ∃ a, l.lookup p = some a := by
  cases e : l.lookup p with
  | none => exact absurd h (lookup_none.mp e)
  | some a => exact ⟨a, rfl⟩
theorem key_of_mem {α : Type} {l : List (Nat × α)} {p : Nat} {a : α} (h : (p, a) ∈ l) : p ∈ l.map (·.1) := List.mem_map.mpr ⟨(p, a), h, rfl⟩
theorem lookup_of_mem {α : Type} : ∀ {l : List (Nat × α)} {p : Nat} {a : α}, (l.map (·.1)).Nodup → (p, a) ∈ l → l.lookup p = some a
  | [], p, a, _, h => by simp at h
  | (q, b) :: l, p, a, hn, h => by
    obtain ⟨h1, h2⟩ := List.nodup_cons.mp hn
    rw [List.lookup_cons]
    rcases List.mem_cons.mp h with e | h
    · injection e with e1 e2; subst e1; subst e2; simp
    · have ne : p ≠ q := fun e => h1 (e ▸ key_of_mem h)
      have e' : (p == q) = false := by simpa using ne
      rw [e']; exact lookup_of_mem h2 h
theorem lookup_snoc {α : Type} : ∀ {l : List (Nat × α)} {p q : Nat} {a : α}, q ∉ l.map (·.1) → (l ++ [(q, a)]).lookup p = if p = q then some a else l.lookup p
  | [], p, q, a, _ => by
    show List.lookup p [(q, a)] = _
    rw [List.lookup_cons]
    by_cases e : p = q
    · subst e; simp
    · have e' : (p == q) = false := by simpa using e
      rw [e', if_neg e]
  | (k, b) :: l, p, q, a, h => by
    have ih := lookup_snoc (l := l) (p := p) (q := q) (a := a) (fun m => h (List.mem_cons_of_mem _ m))
    have hk : q ≠ k := fun e => h (by simp [e])
    show List.lookup p ((k, b) :: (l ++ [(q, a)])) = _
    rw [List.lookup_cons, List.lookup_cons, ih]
    by_cases e : p = k
    · subst e
      rw [if_neg (fun z => hk z.symm)]
      simp [Ne.symm hk]
    · have e' : (p == k) = false := by simpa using e
      rw [e']
def ClosedAt (E : List Tie) (ks : List Nat) (p : Nat) : Prop := ∀ t, t < E.length → touch (tieN E t) p = true → far (tieN E t) p ∈ ks
theorem ClosedAt.more {E : List Tie} {ks : List Nat} {p : Nat} (h : ClosedAt E ks p) (q : Nat) : ClosedAt E (ks ++ [q]) p := fun t ht hp => List.mem_append_left _ (h t ht hp)
structure SideInv (n : Nat) (E : List Tie) (d : Nat → Bool) (sd : List (Nat × Bool)) (wt op : List Nat) : Prop where
  two : Two E d
  val : ∀ p b, (p, b) ∈ sd → b = d p ∧ p < n
  nd : (sd.map (·.1)).Nodup
  wts : ∀ p ∈ wt, p ∈ sd.map (·.1)
  cl : ∀ p ∈ sd.map (·.1), p ∈ wt ∨ p ∈ op ∨ ClosedAt E (sd.map (·.1)) p
section
variable {n : Nat} {E : List Tie} {d : Nat → Bool} {sd : List (Nat × Bool)} {wt op : List Nat} {h f : Nat} {b : Bool}
theorem SideInv.lt (I : SideInv n E d sd wt op) {p : Nat} (hp : p ∈ sd.map (·.1)) : p < n := by
  obtain ⟨⟨q, b⟩, hm, rfl⟩ := List.mem_map.mp hp
  exact (I.val q b hm).2
theorem SideInv.len (I : SideInv n E d sd wt op) : sd.length ≤ n := by
  have := len_le_range I.nd fun x hx => I.lt hx
  rwa [List.length_map] at this
theorem SideInv.empty {s : Nat → Bool} (hs : Two E s) : SideInv n E s [] [] [] :=
  ⟨hs, fun _ _ h => by simp at h, by simp, fun _ h => by simp at h, fun _ h => by simp at h⟩
theorem SideInv.start {s : Nat → Bool} (hs : Two E s) (I : SideInv n E d sd [] []) (hf : f ∉ sd.map (·.1)) (hn : f < n) :
    ∃ d', SideInv n E d' (sd ++ [(f, false)]) [f] [] := by
  refine ⟨fun x => if x ∈ sd.map (·.1) then d x else (s x != s f), ⟨fun e he => ?_, fun p b hm => ?_, ?_, fun p hp => ?_, fun p hp => ?_⟩⟩
  · obtain ⟨t, ht, rfl⟩ := mem_tieN he
    have hne := hs.ne he
    have t1 : touch (tieN E t) (tieN E t).1 = true := touch_iff.mpr (.inl rfl)
    have t2 : touch (tieN E t) (tieN E t).2 = true := touch_iff.mpr (.inr rfl)
    have f1 : far (tieN E t) (tieN E t).1 = (tieN E t).2 := by unfold far; rw [if_pos rfl]
    have f2 : far (tieN E t) (tieN E t).2 = (tieN E t).1 := by unfold far; rw [if_neg (fun q => hne q.symm)]
    have go : ∀ p ∈ sd.map (·.1), ClosedAt E (sd.map (·.1)) p := fun p hp => by
      rcases I.cl p hp with q | q | q
      · simp at q
      · simp at q
      · exact q
    have i1 : (tieN E t).1 ∈ sd.map (·.1) → (tieN E t).2 ∈ sd.map (·.1) := fun h1 => by
      have := go _ h1 t ht t1; rwa [f1] at this
    have i2 : (tieN E t).2 ∈ sd.map (·.1) → (tieN E t).1 ∈ sd.map (·.1) := fun h1 => by
      have := go _ h1 t ht t2; rwa [f2] at this
    show (if _ then _ else _) ≠ (if _ then _ else _)
    by_cases h1 : (tieN E t).1 ∈ sd.map (·.1)
    · rw [if_pos h1, if_pos (i1 h1)]; exact I.two _ he
    · rw [if_neg h1, if_neg (fun q => h1 (i2 q))]
      have key : ∀ a b c : Bool, a ≠ b → (a != c) ≠ (b != c) := by decide
      exact key _ _ _ (hs _ he)
  · show b = (if _ then _ else _) ∧ _
    rcases List.mem_append.mp hm with q | q
    · rw [if_pos (key_of_mem q)]; exact I.val p b q
    · simp at q
      obtain ⟨rfl, rfl⟩ := q
      rw [if_neg hf]
      exact ⟨by simp, hn⟩
  · rw [List.map_append]
    exact nodup_snoc I.nd hf
  · rw [List.mem_singleton] at hp
    subst hp
    rw [List.map_append]; exact List.mem_append_right _ (by simp)
  · rw [List.map_append] at hp ⊢
    rcases List.mem_append.mp hp with q | q
    · refine .inr (.inr ?_)
      rcases I.cl p q with z | z | z
      · simp at z
      · simp at z
      · exact z.more f
    · exact .inl (by simpa using q)
theorem SideInv.pop (I : SideInv n E d sd (h :: wt) []) : SideInv n E d sd wt [h] ∧ h ∈ sd.map (·.1) :=
  ⟨⟨I.two, I.val, I.nd, fun p hp => I.wts p (List.mem_cons_of_mem _ hp), fun p hp => by
    rcases I.cl p hp with q | q | q
    · rcases List.mem_cons.mp q with rfl | q
      · exact .inr (.inl (by simp))
      · exact .inl q
    · simp at q
    · exact .inr (.inr q)⟩, I.wts h List.mem_cons_self⟩
/-- a tie to a place not yet met -/
theorem SideInv.new {t : Nat} (w : WOk n E) (I : SideInv n E d sd wt [h]) (hb : (h, b) ∈ sd) (ht : t < E.length) (hh : touch (tieN E t) h = true) (hf : far (tieN E t) h ∉ sd.map (·.1)) :
    SideInv n E d (sd ++ [(far (tieN E t) h, !b)]) (wt ++ [far (tieN E t) h]) [h] := by
  refine ⟨I.two, fun p c hm => ?_, ?_, fun p hp => ?_, fun p hp => ?_⟩
  · rcases List.mem_append.mp hm with q | q
    · exact I.val p c q
    · simp at q
      obtain ⟨rfl, rfl⟩ := q
      exact ⟨by rw [side_far I.two ht hh, (I.val h b hb).1], far_lt w ht⟩
  · rw [List.map_append]; exact nodup_snoc I.nd hf
  · rw [List.map_append]
    rcases List.mem_append.mp hp with q | q
    · exact List.mem_append_left _ (I.wts p q)
    · exact List.mem_append_right _ (by simpa using q)
  · rw [List.map_append] at hp ⊢
    rcases List.mem_append.mp hp with q | q
    · rcases I.cl p q with z | z | z
      · exact .inl (List.mem_append_left _ z)
      · exact .inr (.inl z)
      · exact .inr (.inr (z.more _))
    · exact .inl (List.mem_append_right _ (by simpa using q))
/-- a tie to a place that was met has another side -/
theorem SideInv.old {t : Nat} {c : Bool} (I : SideInv n E d sd wt op) (hb : (h, b) ∈ sd) (ht : t < E.length) (hh : touch (tieN E t) h = true) (hf : (far (tieN E t) h, c) ∈ sd) : c ≠ b := by
  rw [(I.val _ _ hf).1, (I.val _ _ hb).1, side_far I.two ht hh]
  cases d h <;> decide
theorem SideInv.done (I : SideInv n E d sd wt [h]) (hc : ∀ t ∈ tiesAt E h, far (tieN E t) h ∈ sd.map (·.1)) : SideInv n E d sd wt [] :=
  ⟨I.two, I.val, I.nd, I.wts, fun p hp => by
    rcases I.cl p hp with q | q | q
    · exact .inl q
    · rw [List.mem_singleton] at q
      subst q
      exact .inr (.inr fun t ht hp => hc t (mem_tiesAt.mpr ⟨ht, hp⟩))
    · exact .inr (.inr q)⟩
end
end K87
/-! ties of which no two meet: going by turns, turning -/
namespace K87
inductive Came where
  | root
  | via (t h : Nat)
  | back (h : Nat)
abbrev Cml := List (Nat × Came)
def ks (cm : Cml) : List Nat := cm.map (·.1)
theorem ks_snoc (cm : Cml) (p : Nat) (c : Came) : ks (cm ++ [(p, c)]) = ks cm ++ [p] := by unfold ks; rw [List.map_append]; rfl
def setf {α : Type} (f : Nat → α) (p : Nat) (v : α) : Nat → α := fun x => if x = p then v else f x
theorem setf_same {α : Type} {f : Nat → α} {p : Nat} {v : α} : setf f p v p = v := if_pos rfl
theorem setf_ne {α : Type} {f : Nat → α} {p x : Nat} {v : α} (h : x ≠ p) : setf f p v x = f x := if_neg h
/-- taken: no two meet -/
def Mat (n : Nat) (E : List Tie) (tk : Nat → Option Nat) : Prop :=
  ∀ p t, p < n → tk p = some t → t < E.length ∧ touch (tieN E t) p = true ∧ tk (far (tieN E t) p) = some t
def EntOk (n : Nat) (E : List Tie) (s : Nat → Bool) (tk : Nat → Option Nat) (r : Nat) (rk : Nat → Nat) (kl : List Nat) (p : Nat) : Came → Prop
  | .root => p = r
  | .via t h => t < E.length ∧ touch (tieN E t) h = true ∧ far (tieN E t) h = p ∧ s h = s r ∧ h ∈ kl ∧ rk h < rk p
  | .back h => ∃ t, tk h = some t ∧ t < E.length ∧ touch (tieN E t) h = true ∧ far (tieN E t) h = p ∧ s h = (!s r) ∧ h ∈ kl ∧ rk h < rk p
structure CmOk (n : Nat) (E : List Tie) (s : Nat → Bool) (tk : Nat → Option Nat) (r : Nat) (rk : Nat → Nat) (cm : Cml) : Prop where
  nd : (ks cm).Nodup
  root : (r, Came.root) ∈ cm
  rlt : r < n
  rfree : tk r = none
  rkl : ∀ p ∈ ks cm, rk p < cm.length
  lt : ∀ p ∈ ks cm, p < n
  ent : ∀ p c, (p, c) ∈ cm → EntOk n E s tk r rk (ks cm) p c
section
variable {n : Nat} {E : List Tie} {s : Nat → Bool} {tk : Nat → Option Nat} {r : Nat} {rk : Nat → Nat} {cm : Cml} {p q h t : Nat}
theorem mem_ks {c : Came} (m : (p, c) ∈ cm) : p ∈ ks cm := key_of_mem m
theorem ks_mem (m : p ∈ ks cm) : ∃ c, (p, c) ∈ cm := by
  obtain ⟨⟨q, c⟩, hq, e⟩ := List.mem_map.mp m
  exact ⟨c, by rw [← e]; exact hq⟩
theorem EntOk.more {rk' : Nat → Nat} {kl kl' : List Nat} {c : Came} (e : EntOk n E s tk r rk kl p c) (hk : ∀ x ∈ kl, x ∈ kl') (hr : ∀ x ∈ kl, rk' x = rk x) (hp : rk' p = rk p) : EntOk n E s tk r rk' kl' p c := by
  cases c with
  | root => exact e
  | via t h =>
    obtain ⟨h1, h2, h3, h4, h5, h6⟩ := e
    exact ⟨h1, h2, h3, h4, hk _ h5, by rw [hr _ h5, hp]; exact h6⟩
  | back h =>
    obtain ⟨t, h0, h1, h2, h3, h4, h5, h6⟩ := e
    exact ⟨t, h0, h1, h2, h3, h4, hk _ h5, by rw [hr _ h5, hp]; exact h6⟩
theorem CmOk.start (h1 : r < n) (h2 : tk r = none) : CmOk n E s tk r (fun _ => 0) [(r, .root)] :=
  ⟨by simp [ks], by simp, h1, h2, fun p hp => by simp, fun p hp => by simp [ks] at hp; rw [hp]; exact h1, fun p c m => by
    simp at m
    obtain ⟨rfl, rfl⟩ := m
    exact rfl⟩
def rkUp (rk : Nat → Nat) (cm : Cml) (p : Nat) : Nat → Nat := setf rk p cm.length
theorem CmOk.snoc {c : Came} (C : CmOk n E s tk r rk cm) (hp : p ∉ ks cm) (hl : p < n) (he : ∀ rk', (∀ x ∈ ks cm, rk' x < rk' p) → EntOk n E s tk r rk' (ks cm ++ [p]) p c) :
    CmOk n E s tk r (rkUp rk cm p) (cm ++ [(p, c)]) := by
  have ne : ∀ x ∈ ks cm, x ≠ p := fun x hx e => hp (e ▸ hx)
  have up : ∀ x ∈ ks cm, rkUp rk cm p x = rk x := fun x hx => setf_ne (ne x hx)
  have upp : rkUp rk cm p p = cm.length := setf_same
  refine ⟨by rw [ks_snoc]; exact nodup_snoc C.nd hp, List.mem_append_left _ C.root, C.rlt, C.rfree, fun x hx => ?_, fun x hx => ?_, fun x d m => ?_⟩
  · rw [ks_snoc] at hx
    rw [List.length_append, List.length_singleton]
    rcases List.mem_append.mp hx with z | z
    · rw [up x z]; exact Nat.lt_succ_of_lt (C.rkl x z)
    · rw [List.mem_singleton] at z
      rw [z, upp]; exact Nat.lt_succ_self _
  · rw [ks_snoc] at hx
    rcases List.mem_append.mp hx with z | z
    · exact C.lt x z
    · rw [List.mem_singleton] at z
      rw [z]; exact hl
  · rw [ks_snoc]
    rcases List.mem_append.mp m with z | z
    · exact (C.ent x d z).more (fun y hy => List.mem_append_left _ hy) up (up x (mem_ks z))
    · rw [List.mem_singleton] at z
      injection z with z1 z2
      subst z1; subst z2
      exact he _ fun y hy => by rw [up y hy, upp]; exact C.rkl y hy
theorem CmOk.via (w : WOk n E) (C : CmOk n E s tk r rk cm) (ht : t < E.length) (hh : touch (tieN E t) h = true) (hk : h ∈ ks cm) (hs : s h = s r) (hp : far (tieN E t) h ∉ ks cm) :
    CmOk n E s tk r (rkUp rk cm (far (tieN E t) h)) (cm ++ [(far (tieN E t) h, .via t h)]) :=
  C.snoc hp (far_lt w ht) fun rk' hr => ⟨ht, hh, rfl, hs, List.mem_append_left _ hk, hr h hk⟩
theorem CmOk.back (w : WOk n E) (C : CmOk n E s tk r rk cm) (htk : tk h = some t) (ht : t < E.length) (hh : touch (tieN E t) h = true) (hk : h ∈ ks cm) (hs : s h = (!s r)) (hp : far (tieN E t) h ∉ ks cm) :
    CmOk n E s tk r (rkUp rk cm (far (tieN E t) h)) (cm ++ [(far (tieN E t) h, .back h)]) :=
  C.snoc hp (far_lt w ht) fun rk' hr => ⟨t, htk, ht, hh, rfl, hs, List.mem_append_left _ hk, hr h hk⟩
/-- what stands on the other side was come to by a tie -/
theorem CmOk.isVia (two : Two E s) (C : CmOk n E s tk r rk cm) (hp : p ∈ ks cm) (hs : s p = (!s r)) : ∃ t h, (p, Came.via t h) ∈ cm := by
  obtain ⟨c, m⟩ := ks_mem hp
  cases c with
  | root =>
    have e : p = r := C.ent p _ m
    rw [e] at hs
    cases hr : s r <;> rw [hr] at hs <;> cases hs
  | via t h => exact ⟨t, h, m⟩
  | back h =>
    obtain ⟨t, _, h1, h2, h3, h4, _⟩ := C.ent p _ m
    have := side_far two h1 h2
    rw [h3, hs, h4] at this
    cases hr : s r <;> rw [hr] at this <;> cases this
theorem CmOk.viaSide (two : Two E s) (C : CmOk n E s tk r rk cm) (m : (p, Came.via t h) ∈ cm) : s p = (!s r) := by
  obtain ⟨h1, h2, h3, h4, _⟩ := C.ent p _ m
  have := side_far two h1 h2
  rw [h3, h4] at this; exact this
theorem CmOk.backSide (two : Two E s) (C : CmOk n E s tk r rk cm) (m : (p, Came.back h) ∈ cm) : s p = s r := by
  obtain ⟨t, _, h1, h2, h3, h4, _⟩ := C.ent p _ m
  have := side_far two h1 h2
  rw [h3, h4, Bool.not_not] at this; exact this
theorem CmOk.backVia (two : Two E s) (C : CmOk n E s tk r rk cm) (m : (p, Came.back h) ∈ cm) : ∃ t' h', (h, Came.via t' h') ∈ cm := by
  obtain ⟨t, _, _, _, _, h4, h5, _⟩ := C.ent p _ m
  exact C.isVia two h5 h4
/-- a mate of a place not yet met isn't met -/
theorem CmOk.mateNew (w : WOk n E) (two : Two E s) (M : Mat n E tk) (C : CmOk n E s tk r rk cm) (hq : q < n) (hn : q ∉ ks cm) (hs : s q = (!s r)) (htk : tk q = some t) : far (tieN E t) q ∉ ks cm := by
  intro hm
  obtain ⟨t1, t2, t3⟩ := M q t hq htk
  have hsf := side_far two t1 t2
  rw [hs, Bool.not_not] at hsf
  obtain ⟨c, m⟩ := ks_mem hm
  cases c with
  | root =>
    have e : far (tieN E t) q = r := C.ent _ _ m
    rw [e, C.rfree] at t3; cases t3
  | via t' h' =>
    have := C.viaSide two m
    rw [hsf] at this
    cases hr : s r <;> rw [hr] at this <;> cases this
  | back h' =>
    obtain ⟨t', a0, a1, a2, a3, a4, a5, a6⟩ := C.ent _ _ m
    have hh' : h' < n := touch_lt w a1 a2
    obtain ⟨_, _, b3⟩ := M h' t' hh' a0
    rw [a3, t3] at b3
    have e : t' = t := (Option.some.inj b3).symm
    subst e
    have ff := far_far (ends_ne w t1) t2
    have ff2 := far_far (ends_ne w t1) a2
    rw [a3, ff] at ff2
    exact hn (ff2 ▸ a5)
end
/-- going by turns: waiting, and one place that is gone on from -/
structure Bfs (n : Nat) (E : List Tie) (s : Nat → Bool) (tk : Nat → Option Nat) (r : Nat) (lt : List Nat) (rk : Nat → Nat) (cm : Cml) (wt op : List Nat) : Prop where
  c : CmOk n E s tk r rk cm
  wts : ∀ w ∈ wt, w ∈ ks cm ∧ s w = s r
  cl : ∀ p ∈ ks cm, s p = s r → p ∈ wt ∨ p ∈ op ∨ ClosedAt E (ks cm) p
  mt : ∀ p ∈ ks cm, s p = (!s r) → ∃ t, tk p = some t ∧ far (tieN E t) p ∈ ks cm
  nl : ∀ p ∈ ks cm, s p = s r → p ∉ lt
  cnt : (ks cm).countP (fun p => s p == s r) = (ks cm).countP (fun p => s p != s r) + 1
section
variable {n : Nat} {E : List Tie} {s : Nat → Bool} {tk : Nat → Option Nat} {r : Nat} {rk : Nat → Nat} {cm : Cml} {p q h t : Nat} {lt wt op : List Nat}
theorem Bfs.start (h1 : r < n) (h2 : tk r = none) (h3 : r ∉ lt) : Bfs n E s tk r lt (fun _ => 0) [(r, .root)] [r] [] :=
  ⟨CmOk.start h1 h2, fun w hw => by simp at hw; subst hw; simp [ks], fun p hp _ => by simp [ks] at hp; simp [hp], fun p hp hs => by
    simp [ks] at hp; subst hp
    cases hr : s p <;> rw [hr] at hs <;> simp at hs, fun p hp _ => by simp [ks] at hp; subst hp; exact h3, by simp [ks]⟩
theorem Bfs.pop (B : Bfs n E s tk r lt rk cm (h :: wt) []) : Bfs n E s tk r lt rk cm wt [h] ∧ h ∈ ks cm ∧ s h = s r :=
  ⟨⟨B.c, fun w hw => B.wts w (List.mem_cons_of_mem _ hw), fun p hp hs => by
    rcases B.cl p hp hs with z | z | z
    · rcases List.mem_cons.mp z with rfl | z
      · exact .inr (.inl (by simp))
      · exact .inl z
    · simp at z
    · exact .inr (.inr z), B.mt, B.nl, B.cnt⟩, B.wts h List.mem_cons_self⟩
theorem Bfs.done (B : Bfs n E s tk r lt rk cm wt [h]) (hc : ∀ t ∈ tiesAt E h, far (tieN E t) h ∈ ks cm) : Bfs n E s tk r lt rk cm wt [] :=
  ⟨B.c, B.wts, fun p hp hs => by
    rcases B.cl p hp hs with z | z | z
    · exact .inl z
    · rw [List.mem_singleton] at z
      subst z
      exact .inr (.inr fun t ht hp => hc t (mem_tiesAt.mpr ⟨ht, hp⟩))
    · exact .inr (.inr z), B.mt, B.nl, B.cnt⟩
/-- the two further entries, of a place and its mate -/
def cm2 (cm : Cml) (q : Nat) (c : Came) (m : Nat) : Cml := (cm ++ [(q, c)]) ++ [(m, .back q)]
theorem Bfs.more {tq : Nat} (w : WOk n E) (two : Two E s) (M : Mat n E tk) (B : Bfs n E s tk r lt rk cm wt [h]) (hh : h ∈ ks cm) (hs : s h = s r) (ht : t < E.length) (hth : touch (tieN E t) h = true)
    (hq : far (tieN E t) h ∉ ks cm) (htk : tk (far (tieN E t) h) = some tq) :
    ∃ rk', CmOk n E s tk r rk' (cm2 cm (far (tieN E t) h) (.via t h) (far (tieN E tq) (far (tieN E t) h))) ∧
      (far (tieN E tq) (far (tieN E t) h) ∉ lt → Bfs n E s tk r lt rk' (cm2 cm (far (tieN E t) h) (.via t h) (far (tieN E tq) (far (tieN E t) h))) (wt ++ [far (tieN E tq) (far (tieN E t) h)]) [h]) ∧
      s (far (tieN E tq) (far (tieN E t) h)) = s r := by
  have hqn : far (tieN E t) h < n := far_lt w ht
  have hsq : s (far (tieN E t) h) = (!s r) := by rw [side_far two ht hth, hs]
  obtain ⟨q1, q2, q3⟩ := M _ tq hqn htk
  have mnew := B.c.mateNew w two M hqn hq hsq htk
  have hsm : s (far (tieN E tq) (far (tieN E t) h)) = s r := by rw [side_far two q1 q2, hsq, Bool.not_not]
  have C1 := B.c.via w ht hth hh hs hq
  have mne : far (tieN E tq) (far (tieN E t) h) ≠ far (tieN E t) h := far_ne (ends_ne w q1)
  have mnew1 : far (tieN E tq) (far (tieN E t) h) ∉ ks (cm ++ [(far (tieN E t) h, Came.via t h)]) := by
    rw [ks_snoc]
    intro z
    rcases List.mem_append.mp z with z | z
    · exact mnew z
    · exact mne (by simpa using z)
  have C2 := C1.back w htk q1 q2 (by rw [ks_snoc]; exact List.mem_append_right _ (by simp)) hsq mnew1
  have ek : ks (cm2 cm (far (tieN E t) h) (.via t h) (far (tieN E tq) (far (tieN E t) h))) = (ks cm ++ [far (tieN E t) h]) ++ [far (tieN E tq) (far (tieN E t) h)] := by
    unfold cm2; rw [ks_snoc, ks_snoc]
  refine ⟨_, C2, fun hl => ⟨C2, fun x hx => ?_, fun x hx hsx => ?_, fun x hx hsx => ?_, fun x hx hsx => ?_, ?_⟩, hsm⟩
  · rw [ek]
    rcases List.mem_append.mp hx with z | z
    · exact ⟨List.mem_append_left _ (List.mem_append_left _ (B.wts x z).1), (B.wts x z).2⟩
    · rw [List.mem_singleton] at z
      rw [z]; exact ⟨List.mem_append_right _ (by simp), hsm⟩
  · rw [ek] at hx ⊢
    rcases List.mem_append.mp hx with z | z
    · rcases List.mem_append.mp z with z | z
      · rcases B.cl x z hsx with y | y | y
        · exact .inl (List.mem_append_left _ y)
        · exact .inr (.inl y)
        · exact .inr (.inr ((y.more _).more _))
      · rw [List.mem_singleton] at z
        rw [z, hsq] at hsx
        cases hr : s r <;> rw [hr] at hsx <;> cases hsx
    · exact .inl (List.mem_append_right _ z)
  · rw [ek] at hx ⊢
    rcases List.mem_append.mp hx with z | z
    · rcases List.mem_append.mp z with z | z
      · obtain ⟨t', a, b⟩ := B.mt x z hsx
        exact ⟨t', a, List.mem_append_left _ (List.mem_append_left _ b)⟩
      · rw [List.mem_singleton] at z
        exact ⟨tq, by rw [z]; exact htk, by rw [z]; exact List.mem_append_right _ (by simp)⟩
    · rw [List.mem_singleton] at z
      rw [z, hsm] at hsx
      cases hr : s r <;> rw [hr] at hsx <;> cases hsx
  · rw [ek] at hx
    rcases List.mem_append.mp hx with z | z
    · rcases List.mem_append.mp z with z | z
      · exact B.nl x z hsx
      · rw [List.mem_singleton] at z
        rw [z, hsq] at hsx
        cases hr : s r <;> rw [hr] at hsx <;> cases hsx
    · rw [List.mem_singleton] at z
      rw [z]; exact hl
  · rw [ek]
    have e1 : ∀ f : Nat → Bool, ((ks cm ++ [far (tieN E t) h]) ++ [far (tieN E tq) (far (tieN E t) h)]).countP f = (ks cm).countP f + (if f (far (tieN E t) h) then 1 else 0) + (if f (far (tieN E tq) (far (tieN E t) h)) then 1 else 0) := fun f => by
      rw [List.countP_append, List.countP_append, List.countP_singleton, List.countP_singleton]
    rw [e1, e1, hsq, hsm, B.cnt]
    cases s r <;> simp <;> omega
theorem Bfs.len (B : Bfs n E s tk r lt rk cm wt op) : cm.length ≤ n := by
  have := len_le_range B.c.nd B.c.lt
  unfold ks at this
  rwa [List.length_map] at this
end
end K87
/-! the turning of a way; closed sets; the count -/
namespace K87
section
variable {n : Nat} {E : List Tie} {s : Nat → Bool} {tk : Nat → Option Nat} {r : Nat} {rk : Nat → Nat} {cm : Cml} {p q h t e : Nat} {lt wt op : List Nat} {F ex : Nat → Prop} {tk' : Nat → Option Nat}
/-- what a turning leaves -/
structure TFin (n : Nat) (E : List Tie) (tk : Nat → Option Nat) (r : Nat) (F ex : Nat → Prop) (tk' : Nat → Option Nat) : Prop where
  mat : Mat n E tk'
  root : tk' r ≠ none
  keep : ∀ x, tk x ≠ none → ¬ ex x → tk' x ≠ none
  fr : ∀ x, F x → tk' x = tk x
structure THole (n : Nat) (E : List Tie) (tk : Nat → Option Nat) (rk : Nat → Nat) (cm : Cml) (F ex : Nat → Prop) (tk' : Nat → Option Nat) (p : Nat) : Prop where
  via : ∃ t h, (p, Came.via t h) ∈ cm
  hole : ∀ q t, q < n → q ≠ p → tk' q = some t → t < E.length ∧ touch (tieN E t) q = true ∧ far (tieN E t) q ≠ p ∧ tk' (far (tieN E t) q) = some t
  same : ∀ x, x ∈ ks cm → rk x < rk p → tk' x = tk x
  keep : ∀ x, tk x ≠ none → ¬ ex x → x = p ∨ tk' x ≠ none
  fr : ∀ x, F x → tk' x = tk x
  nf : ¬ F p
/-- a way that ends outside of F lies outside of it -/
structure FOut (cm : Cml) (F : Nat → Prop) : Prop where
  via : ∀ p t h, (p, Came.via t h) ∈ cm → ¬ F p → ¬ F h
  back : ∀ p h, (p, Came.back h) ∈ cm → ¬ F p → ¬ F h
theorem FOut.none : FOut cm fun _ => False := ⟨fun _ _ _ _ h => h, fun _ _ _ h => h⟩
theorem THole.free (C : CmOk n E s tk r rk cm) (M : Mat n E tk) (hv : ∃ t h, (e, Came.via t h) ∈ cm) (hf : tk e = none) (nf : ¬ F e) : THole n E tk rk cm F ex tk e :=
  ⟨hv, fun q t hq hne htk => by
    obtain ⟨a, b, c⟩ := M q t hq htk
    exact ⟨a, b, (fun z => by rw [z, hf] at c; cases c), c⟩, fun _ _ _ => rfl, fun x hx _ => .inr hx, fun _ _ => rfl, nf⟩
theorem THole.bare (w : WOk n E) (two : Two E s) (C : CmOk n E s tk r rk cm) (M : Mat n E tk) (O : FOut cm F) (hb : (e, Came.back p) ∈ cm) (nf : ¬ F e) :
    THole n E tk rk cm F (fun x => x = e) (setf tk e none) p := by
  obtain ⟨t0, a0, a1, a2, a3, a4, a5, a6⟩ := C.ent _ _ hb
  have hpn : p < n := touch_lt w a1 a2
  have hne : p ≠ e := fun z => by
    have := far_ne (p := p) (ends_ne w a1); rw [a3] at this; exact this z.symm
  have hte : tk e = some t0 := by
    obtain ⟨_, _, c⟩ := M p t0 hpn a0
    rwa [a3] at c
  have hen : e < n := by rw [← a3]; exact far_lt w a1
  have ffe : far (tieN E t0) e = p := by rw [← a3]; exact far_far (ends_ne w a1) a2
  refine ⟨C.backVia two hb, fun q t hq hqp htq => ?_, fun x hx hr => ?_, fun x hx hxe => ?_, fun x hx => ?_, O.back _ _ hb nf⟩
  · have hqe : q ≠ e := fun z => by rw [z, setf_same] at htq; cases htq
    rw [setf_ne hqe] at htq
    obtain ⟨b1, b2, b3⟩ := M q t hq htq
    have f1 : far (tieN E t) q ≠ p := fun z => by
      rw [z, a0] at b3
      have e1 : t0 = t := Option.some.inj b3
      subst e1
      have := far_far (ends_ne w b1) b2
      rw [z, a3] at this
      exact hqe this.symm
    have f2 : far (tieN E t) q ≠ e := fun z => by
      rw [z, hte] at b3
      have e1 : t0 = t := Option.some.inj b3
      subst e1
      have := far_far (ends_ne w b1) b2
      rw [z, ffe] at this
      exact hqp this.symm
    exact ⟨b1, b2, f1, by rw [setf_ne f2]; exact b3⟩
  · refine setf_ne fun z => ?_
    rw [z] at hr
    omega
  · exact .inr (by rw [setf_ne hxe]; exact hx)
  · exact setf_ne fun z => nf (z ▸ hx)
/-- one turn: the place and the one ahead get the tie -/
theorem THole.step (w : WOk n E) (two : Two E s) (C : CmOk n E s tk r rk cm) (M : Mat n E tk) (O : FOut cm F) (T : THole n E tk rk cm F ex tk' p) (hv : (p, Came.via t h) ∈ cm) (er : ¬ ex r) :
    t < E.length ∧ h ∈ ks cm ∧ ((h = r ∧ (h, Came.root) ∈ cm ∧ TFin n E tk r F ex (setf (setf tk' p (some t)) h (some t))) ∨
      ∃ p2, (h, Came.back p2) ∈ cm ∧ rk p2 < rk p ∧ THole n E tk rk cm F ex (setf (setf tk' p (some t)) h (some t)) p2) := by
  obtain ⟨v1, v2, v3, v4, v5, v6⟩ := C.ent _ _ hv
  have hpr : s p = (!s r) := C.viaSide two hv
  have hph : p ≠ h := fun z => by rw [z, v4] at hpr; cases hr : s r <;> rw [hr] at hpr <;> cases hpr
  have hhn : h < n := touch_lt w v1 v2
  have hpn : p < n := by rw [← v3]; exact far_lt w v1
  have tp : touch (tieN E t) p = true := by rw [← v3]; exact far_touch v2
  have fph : far (tieN E t) p = h := by rw [← v3]; exact far_far (ends_ne w v1) v2
  have gp : setf (setf tk' p (some t)) h (some t) p = some t := by rw [setf_ne hph, setf_same]
  have gh : setf (setf tk' p (some t)) h (some t) h = some t := setf_same
  have go : ∀ x, x ≠ p → x ≠ h → setf (setf tk' p (some t)) h (some t) x = tk' x := fun x h1 h2 => by rw [setf_ne h2, setf_ne h1]
  have nfh : ¬ F h := O.via _ _ _ hv T.nf
  have frr : ∀ x, F x → setf (setf tk' p (some t)) h (some t) x = tk x := fun x hx => by
    rw [go x (fun z => T.nf (z ▸ hx)) (fun z => nfh (z ▸ hx))]; exact T.fr x hx
  have keep : ∀ x, tk x ≠ none → ¬ ex x → setf (setf tk' p (some t)) h (some t) x ≠ none := fun x hx hxe => by
    by_cases h1 : x = p
    · rw [h1, gp]; simp
    · by_cases h2 : x = h
      · rw [h2, gh]; simp
      · rw [go x h1 h2]
        rcases T.keep x hx hxe with z | z
        · exact absurd z h1
        · exact z
  refine ⟨v1, v5, ?_⟩
  obtain ⟨c, mh⟩ := ks_mem v5
  cases c with
  | root =>
    have ehr : h = r := C.ent _ _ mh
    refine .inl ⟨ehr, mh, ⟨fun q tq hq htq => ?_, by rw [← ehr, gh]; simp, keep, frr⟩⟩
    by_cases h1 : q = p
    · subst h1
      rw [gp] at htq
      cases htq
      exact ⟨v1, tp, by rw [fph]; exact gh⟩
    · by_cases h2 : q = h
      · subst h2
        rw [gh] at htq
        cases htq
        exact ⟨v1, v2, by rw [v3]; exact gp⟩
      · rw [go q h1 h2] at htq
        obtain ⟨a, b, c, d⟩ := T.hole q tq hq h1 htq
        have fh : far (tieN E tq) q ≠ h := fun z => by
          rw [z, T.same h v5 v6, ehr, C.rfree] at d
          cases d
        exact ⟨a, b, by rw [go _ c fh]; exact d⟩
  | via t' h' =>
    have := C.viaSide two mh
    rw [v4] at this
    cases hr : s r <;> rw [hr] at this <;> cases this
  | back p2 =>
    obtain ⟨t2, b0, b1, b2, b3, b4, b5, b6⟩ := C.ent _ _ mh
    have hp2n : p2 < n := touch_lt w b1 b2
    have h2p : p2 ≠ p := fun z => by rw [z] at b6; omega
    have h2h : p2 ≠ h := fun z => by rw [z] at b6; omega
    have e2 : tk' p2 = some t2 := by rw [T.same p2 b5 (by omega)]; exact b0
    have f2h : far (tieN E t2) h = p2 := by rw [← b3]; exact far_far (ends_ne w b1) b2
    have eh : tk' h = some t2 := by
      obtain ⟨_, _, _, d⟩ := T.hole p2 t2 hp2n h2p e2
      rwa [b3] at d
    refine .inr ⟨p2, mh, by omega, ⟨C.backVia two mh, fun q tq hq hq2 htq => ?_, fun x hx hxr => ?_, fun x hx hxe => .inr (keep x hx hxe), frr, O.back _ _ mh nfh⟩⟩
    · by_cases h1 : q = p
      · subst h1
        rw [gp] at htq
        cases htq
        exact ⟨v1, tp, by rw [fph]; exact Ne.symm h2h, by rw [fph]; exact gh⟩
      · by_cases h2 : q = h
        · subst h2
          rw [gh] at htq
          cases htq
          exact ⟨v1, v2, by rw [v3]; exact Ne.symm h2p, by rw [v3]; exact gp⟩
        · rw [go q h1 h2] at htq
          obtain ⟨a, b, c, d⟩ := T.hole q tq hq h1 htq
          have ne2 : tq ≠ t2 := fun z => by
            subst z
            have k1 := touch_cases b2 b
            rw [b3] at k1
            rcases k1 with k1 | k1
            · exact hq2 k1
            · exact h2 k1
          have fh : far (tieN E tq) q ≠ h := fun z => by
            rw [z, eh] at d
            exact ne2 (Option.some.inj d).symm
          have f2 : far (tieN E tq) q ≠ p2 := fun z => by
            rw [z, e2] at d
            exact ne2 (Option.some.inj d).symm
          exact ⟨a, b, f2, by rw [go _ c fh]; exact d⟩
    · have : x ≠ p := fun z => by rw [z] at hxr; omega
      have : x ≠ h := fun z => by rw [z] at hxr; omega
      rw [go x ‹_› this]
      exact T.same x hx (by omega)
/-- closed: what ties of the left lead to, and the mates of the right, all of which are taken -/
structure Closed (n : Nat) (E : List Tie) (s : Nat → Bool) (tk : Nat → Option Nat) (F : Nat → Prop) : Prop where
  left : ∀ x t, F x → s x = false → t < E.length → touch (tieN E t) x = true → F (far (tieN E t) x)
  right : ∀ x, F x → s x = true → x < n → ∃ t, tk x = some t ∧ F (far (tieN E t) x)
theorem Closed.none : Closed n E s tk fun _ => False := ⟨fun _ _ h => h.elim, fun _ h => h.elim⟩
theorem Closed.out (w : WOk n E) (two : Two E s) (C : CmOk n E s tk r rk cm) (hr : s r = false) (K : Closed n E s tk F) : FOut cm F := by
  refine ⟨fun p t h m nf fh => nf ?_, fun p h m nf fh => nf ?_⟩
  · obtain ⟨v1, v2, v3, v4, v5, v6⟩ := C.ent _ _ m
    have := K.left h t fh (by rw [v4]; exact hr) v1 v2
    rwa [v3] at this
  · obtain ⟨t, a0, a1, a2, a3, a4, _⟩ := C.ent _ _ m
    obtain ⟨t', b1, b2⟩ := K.right h fh (by rw [a4, hr]; rfl) (touch_lt w a1 a2)
    rw [a0] at b1
    cases b1
    rwa [a3] at b2
theorem Closed.keeps (K : Closed n E s tk F) (hf : ∀ x, F x → tk' x = tk x) : Closed n E s tk' F :=
  ⟨K.left, fun x hx hs hn => by rw [hf x hx]; exact K.right x hx hs hn⟩
theorem Closed.or {G : Nat → Prop} (K : Closed n E s tk F) (L : Closed n E s tk G) : Closed n E s tk fun x => F x ∨ G x :=
  ⟨fun x t h hs ht hx => h.elim (fun h => .inl (K.left x t h hs ht hx)) fun h => .inr (L.left x t h hs ht hx), fun x h hs hn => h.elim (fun h => by
    obtain ⟨t, a, b⟩ := K.right x h hs hn; exact ⟨t, a, .inl b⟩) fun h => by
    obtain ⟨t, a, b⟩ := L.right x h hs hn; exact ⟨t, a, .inr b⟩⟩
/-- where the going ends without a place to end at, what was met is closed -/
theorem Bfs.closed (hr : s r = false) (B : Bfs n E s tk r lt rk cm [] []) : Closed n E s tk fun x => x ∈ ks cm :=
  ⟨fun x t hx hs ht hh => by
    rcases B.cl x hx (by rw [hs, hr]) with z | z | z
    · simp at z
    · simp at z
    · exact z t ht hh, fun x hx hs _ => B.mt x hx (by rw [hs, hr]; rfl)⟩
/-- begun within a closed set, it stays there -/
theorem CmOk.within (w : WOk n E) (C : CmOk n E s tk r rk cm) (hr : s r = false) (K : Closed n E s tk F) (hF : F r) : ∀ p ∈ ks cm, F p := by
  have go : ∀ k p, rk p < k → p ∈ ks cm → F p := by
    intro k
    induction k with
    | zero => intro p hp; exact absurd hp (Nat.not_lt_zero _)
    | succ k ih =>
      intro p hp hm
      obtain ⟨c, m⟩ := ks_mem hm
      cases c with
      | root =>
        have e : p = r := C.ent _ _ m
        rw [e]; exact hF
      | via t h =>
        obtain ⟨v1, v2, v3, v4, v5, v6⟩ := C.ent _ _ m
        have := K.left h t (ih h (by omega) v5) (by rw [v4]; exact hr) v1 v2
        rwa [v3] at this
      | back h =>
        obtain ⟨t, a0, a1, a2, a3, a4, a5, a6⟩ := C.ent _ _ m
        obtain ⟨t', b1, b2⟩ := K.right h (ih h (by omega) a5) (by rw [a4, hr]; rfl) (touch_lt w a1 a2)
        rw [a0] at b1
        cases b1
        rwa [a3] at b2
  exact fun p hp => go (rk p + 1) p (Nat.lt_succ_self _) hp
/-- what was met on the left is bare or its mate was met -/
theorem CmOk.mates (w : WOk n E) (two : Two E s) (C : CmOk n E s tk r rk cm) (M : Mat n E tk) (hp : p ∈ ks cm) (hs : s p = s r) (htk : tk p = some t) : far (tieN E t) p ∈ ks cm := by
  obtain ⟨c, m⟩ := ks_mem hp
  cases c with
  | root =>
    have e : p = r := C.ent _ _ m
    rw [e, C.rfree] at htk; cases htk
  | via t' h' =>
    have := C.viaSide two m
    rw [hs] at this
    cases hr : s r <;> rw [hr] at this <;> cases this
  | back h =>
    obtain ⟨t', a0, a1, a2, a3, a4, a5, a6⟩ := C.ent _ _ m
    obtain ⟨_, _, c⟩ := M h t' (touch_lt w a1 a2) a0
    rw [a3, htk] at c
    cases c
    have := far_far (ends_ne w a1) a2
    rw [a3] at this
    rw [this]; exact a5
/-- a greatest count's place can always be taken: where it weren't so, the ties at what was met on its side would be too many -/
theorem Bfs.counted (w : WOk n E) (two : Two E s) {m : Nat} (hm : 0 < m) (hle : ∀ p, p < n → deg E p ≤ m) (hlt : ∀ p, p < n → p ∉ lt → deg E p = m) (B : Bfs n E s tk r lt rk cm [] []) : False := by
  have hA : ∀ p ∈ (ks cm).filter (fun p => s p == s r), deg E p = m := fun p hp => by
    obtain ⟨h1, h2⟩ := List.mem_filter.mp hp
    exact hlt p (B.c.lt p h1) (B.nl p h1 (by simpa using h2))
  have hB : ∀ p ∈ (ks cm).filter (fun p => s p != s r), deg E p ≤ m := fun p hp => hle p (B.c.lt p (List.mem_filter.mp hp).1)
  have key : sumL (((ks cm).filter (fun p => s p == s r)).map (deg E)) ≤ sumL (((ks cm).filter (fun p => s p != s r)).map (deg E)) := by
    rw [sum_deg, sum_deg]
    refine sumL_le _ _ _ fun e he => ?_
    obtain ⟨t, ht, rfl⟩ := mem_tieN he
    by_cases h0 : ((ks cm).filter (fun p => s p == s r)).countP (fun p => touch (tieN E t) p) = 0
    · rw [h0]; exact Nat.zero_le _
    · obtain ⟨p, hp, hpt⟩ := List.countP_pos_iff.mp (Nat.pos_of_ne_zero h0)
      obtain ⟨h1, h2⟩ := List.mem_filter.mp hp
      have hsp : s p = s r := by simpa using h2
      have le1 : ((ks cm).filter (fun p => s p == s r)).countP (fun p => touch (tieN E t) p) ≤ 1 := by
        rw [List.countP_eq_length_filter]
        have nd : (((ks cm).filter (fun p => s p == s r)).filter (fun p => touch (tieN E t) p)).Nodup := (B.c.nd.sublist List.filter_sublist).sublist List.filter_sublist
        have := len_le_of_sub (l' := [p]) nd fun q hq => by
          obtain ⟨g1, g2⟩ := List.mem_filter.mp hq
          have hsq : s q = s r := by simpa using (List.mem_filter.mp g1).2
          rcases touch_cases hpt g2 with z | z
          · simp [z]
          · have := side_far two ht hpt
            rw [← z, hsq, hsp] at this
            cases hr : s r <;> rw [hr] at this <;> cases this
        simpa using this
      have fk : far (tieN E t) p ∈ ks cm := by
        rcases B.cl p h1 hsp with z | z | z
        · simp at z
        · simp at z
        · exact z t ht hpt
      have ge1 : 0 < ((ks cm).filter (fun p => s p != s r)).countP (fun p => touch (tieN E t) p) := by
        refine List.countP_pos_iff.mpr ⟨far (tieN E t) p, List.mem_filter.mpr ⟨fk, ?_⟩, far_touch hpt⟩
        rw [side_far two ht hpt, hsp]
        cases s r <;> rfl
      omega
  rw [sumL_const _ m _ hA] at key
  have key2 := Nat.le_trans key (sumL_le_const _ m _ hB)
  have c := B.cnt
  rw [List.countP_eq_length_filter, List.countP_eq_length_filter] at c
  rw [c, Nat.mul_succ] at key2
  omega
end
end K87
/-! covers; full pairings taken away -/
namespace K87
structure TiesOf (n : Nat) (tk : Nat → Option Nat) (ts : List Nat) : Prop where
  ris : ts.Pairwise (· < ·)
  mem : ∀ t, t ∈ ts ↔ ∃ p, p < n ∧ tk p = some t
theorem ris_nodup {l : List Nat} (h : l.Pairwise (· < ·)) : l.Nodup := h.imp fun h => Nat.ne_of_lt h
/-- ties of which no two meet -/
def Apart (E : List Tie) (l : List Nat) : Prop := ∀ a ∈ l, ∀ b ∈ l, ∀ p, touch (tieN E a) p = true → touch (tieN E b) p = true → a = b
section
variable {n : Nat} {E : List Tie} {s : Nat → Bool} {tk : Nat → Option Nat} {ts : List Nat}
theorem Mat.at (w : WOk n E) (M : Mat n E tk) {p q t : Nat} (hp : p < n) (h : tk p = some t) (hq : touch (tieN E t) q = true) : tk q = some t := by
  obtain ⟨a, b, c⟩ := M p t hp h
  rcases touch_cases b hq with z | z
  · rw [z]; exact h
  · rw [z]; exact c
theorem TiesOf.lt (M : Mat n E tk) (T : TiesOf n tk ts) {t : Nat} (h : t ∈ ts) : t < E.length := by
  obtain ⟨p, hp, e⟩ := (T.mem t).mp h
  exact (M p t hp e).1
theorem TiesOf.apart (w : WOk n E) (M : Mat n E tk) (T : TiesOf n tk ts) : Apart E ts := fun a ha b hb p h1 h2 => by
  obtain ⟨q, hq, e⟩ := (T.mem a).mp ha
  obtain ⟨q', hq', e'⟩ := (T.mem b).mp hb
  have e1 := M.at w hq e h1
  have e2 := M.at w hq' e' h2
  rw [e1] at e2
  exact Option.some.inj e2
def coverL (n : Nat) (s : Nat → Bool) (tk : Nat → Option Nat) (Z : Nat → Bool) : List Nat := (List.range n).filter fun p => (tk p).isSome && (Z p == s p)
theorem mem_cover {Z : Nat → Bool} {p : Nat} : p ∈ coverL n s tk Z ↔ p < n ∧ (∃ t, tk p = some t) ∧ Z p = s p := by
  unfold coverL
  rw [List.mem_filter, List.mem_range, Bool.and_eq_true, Option.isSome_iff_exists, beq_iff_eq]
structure ZOk (n : Nat) (E : List Tie) (s : Nat → Bool) (tk : Nat → Option Nat) (Z : Nat → Bool) : Prop where
  cl : Closed n E s tk fun x => Z x = true
  bare : ∀ p, p < n → s p = false → tk p = none → Z p = true
  mates : ∀ p t, Z p = true → s p = false → tk p = some t → Z (far (tieN E t) p) = true
theorem left_end (two : Two E s) {t : Nat} (ht : t < E.length) : ∃ p, touch (tieN E t) p = true ∧ s p = false ∧ touch (tieN E t) (far (tieN E t) p) = true ∧ s (far (tieN E t) p) = true := by
  have t1 : touch (tieN E t) (tieN E t).1 = true := touch_iff.mpr (.inl rfl)
  cases h : s (tieN E t).1 with
  | false => exact ⟨_, t1, h, far_touch t1, by rw [side_far two ht t1, h]; rfl⟩
  | true =>
    refine ⟨far (tieN E t) (tieN E t).1, far_touch t1, by rw [side_far two ht t1, h]; rfl, ?_, ?_⟩
    · exact far_touch (far_touch t1)
    · rw [side_far two ht (far_touch t1), side_far two ht t1, h]; rfl
theorem ZOk.covers (w : WOk n E) (two : Two E s) {Z : Nat → Bool} (O : ZOk n E s tk Z) {t : Nat} (ht : t < E.length) : (tieN E t).1 ∈ coverL n s tk Z ∨ (tieN E t).2 ∈ coverL n s tk Z := by
  obtain ⟨p, h1, h2, h3, h4⟩ := left_end two ht
  have hp := touch_lt w ht h1
  have hq := touch_lt w ht h3
  have key : ∀ x, touch (tieN E t) x = true → x ∈ coverL n s tk Z → (tieN E t).1 ∈ coverL n s tk Z ∨ (tieN E t).2 ∈ coverL n s tk Z := fun x hx hm => by
    rcases touch_iff.mp hx with z | z
    · exact .inl (z ▸ hm)
    · exact .inr (z ▸ hm)
  by_cases hz : Z p = true
  · have hz' := O.cl.left p t hz h2 ht h1
    obtain ⟨t', a, b⟩ := O.cl.right _ hz' h4 hq
    exact key _ h3 (mem_cover.mpr ⟨hq, ⟨t', a⟩, by rw [h4]; exact hz'⟩)
  · have hz0 : Z p = false := by simpa using hz
    cases e : tk p with
    | none => exact absurd (O.bare p hp h2 e) hz
    | some t' => exact key _ h1 (mem_cover.mpr ⟨hp, ⟨t', e⟩, by rw [h2, hz0]⟩)
theorem ZOk.length (w : WOk n E) (two : Two E s) (M : Mat n E tk) {Z : Nat → Bool} (O : ZOk n E s tk Z) (T : TiesOf n tk ts) : ts.length = (coverL n s tk Z).length := by
  have nd : (coverL n s tk Z).Nodup := List.nodup_range.sublist List.filter_sublist
  have inj : ∀ a ∈ coverL n s tk Z, ∀ b ∈ coverL n s tk Z, (tk a).getD 0 = (tk b).getD 0 → a = b := fun a ha b hb e => by
    obtain ⟨a1, ⟨ta, a2⟩, a3⟩ := mem_cover.mp ha
    obtain ⟨b1, ⟨tb, b2⟩, b3⟩ := mem_cover.mp hb
    rw [a2, b2] at e
    have e : ta = tb := e
    subst e
    obtain ⟨c1, c2, c3⟩ := M a ta a1 a2
    obtain ⟨d1, d2, d3⟩ := M b ta b1 b2
    rcases touch_cases c2 d2 with z | z
    · exact z.symm
    · exfalso
      have sd := side_far two c1 c2
      rw [← z] at sd
      cases ha' : s a with
      | false =>
        rw [ha'] at a3 sd
        rw [sd] at b3
        obtain ⟨t', g1, g2⟩ := O.cl.right b b3 sd b1
        rw [b2] at g1
        cases g1
        have ff := far_far (ends_ne w c1) c2
        rw [← z] at ff
        rw [ff, a3] at g2
        cases g2
      | true =>
        rw [ha'] at a3 sd
        rw [sd] at b3
        obtain ⟨t', g1, g2⟩ := O.cl.right a a3 ha' a1
        rw [a2] at g1
        cases g1
        rw [← z, b3] at g2
        cases g2
  have h := len_of_mem (ris_nodup T.ris) (nodup_map_inj nd inj) fun t => ?_
  · rwa [List.length_map] at h
  · rw [List.mem_map]
    constructor
    · intro ht
      obtain ⟨p0, hp0, e0⟩ := (T.mem t).mp ht
      obtain ⟨c1, c2, c3⟩ := M p0 t hp0 e0
      obtain ⟨p, h1, h2, h3, h4⟩ := left_end two c1
      have hp := touch_lt w c1 h1
      have hq := touch_lt w c1 h3
      have ep := M.at w hp0 e0 h1
      have eq := M.at w hp0 e0 h3
      by_cases hz : Z p = true
      · exact ⟨_, mem_cover.mpr ⟨hq, ⟨t, eq⟩, by rw [h4]; exact O.mates p t hz h2 ep⟩, by rw [eq]; rfl⟩
      · exact ⟨p, mem_cover.mpr ⟨hp, ⟨t, ep⟩, by rw [h2]; simpa using hz⟩, by rw [ep]; rfl⟩
    · rintro ⟨p, hp, e⟩
      obtain ⟨a1, ⟨ta, a2⟩, a3⟩ := mem_cover.mp hp
      rw [a2] at e
      have e : ta = t := e
      subst e
      exact (T.mem ta).mpr ⟨p, a1, a2⟩
theorem cover_ris (Z : Nat → Bool) : (coverL n s tk Z).Pairwise (· < ·) := (List.pairwise_lt_range).sublist List.filter_sublist
/-- no more ties of which no two meet than places that all ties have -/
theorem row_le {row cov : List Nat} (nd : row.Nodup) (ap : Apart E row) (hl : ∀ t ∈ row, t < E.length) (hc : ∀ t, t < E.length → (tieN E t).1 ∈ cov ∨ (tieN E t).2 ∈ cov) : row.length ≤ cov.length := by
  have ht : ∀ t ∈ row, touch (tieN E t) (if (tieN E t).1 ∈ cov then (tieN E t).1 else (tieN E t).2) = true ∧ (if (tieN E t).1 ∈ cov then (tieN E t).1 else (tieN E t).2) ∈ cov := fun t h => by
    by_cases h1 : (tieN E t).1 ∈ cov
    · rw [if_pos h1]; exact ⟨touch_iff.mpr (.inl rfl), h1⟩
    · rw [if_neg h1]; exact ⟨touch_iff.mpr (.inr rfl), (hc t (hl t h)).resolve_left h1⟩
  have := len_le_of_sub (l := row.map fun t => if (tieN E t).1 ∈ cov then (tieN E t).1 else (tieN E t).2) (l' := cov) (nodup_map_inj nd fun a ha b hb e => ?_) fun x hx => ?_
  · rwa [List.length_map] at this
  · have h1 := (ht a ha).1
    have h2 := (ht b hb).1
    rw [← e] at h2
    exact ap a ha b hb _ h1 h2
  · obtain ⟨t, h, rfl⟩ := List.mem_map.mp hx
    exact (ht t h).2
/-- a full pairing -/
structure FullP (n : Nat) (E : List Tie) (ts : List Nat) : Prop where
  ris : ts.Pairwise (· < ·)
  lt : ∀ t ∈ ts, t < E.length
  apart : Apart E ts
  full : ∀ p, p < n → deg E p = mostAt n E → 0 < mostAt n E → ∃ t ∈ ts, touch (tieN E t) p = true
theorem FullP.of (w : WOk n E) (M : Mat n E tk) (T : TiesOf n tk ts) (h : ∀ p, p < n → deg E p = mostAt n E → 0 < mostAt n E → tk p ≠ none) : FullP n E ts :=
  ⟨T.ris, fun t ht => T.lt M ht, T.apart w M, fun p hp e hm => by
    cases et : tk p with
    | none => exact absurd et (h p hp e hm)
    | some t => exact ⟨t, (T.mem t).mpr ⟨p, hp, et⟩, (M p t hp et).2.1⟩⟩
end
/-! some of a web's ties, by their numbers -/
def sub (E : List Tie) (l : List Nat) : List Tie := l.map (tieN E)
section
variable {n : Nat} {E : List Tie} {s : Nat → Bool} {l g : List Nat} {p : Nat}
theorem sub_length : (sub E l).length = l.length := by unfold sub; rw [List.length_map]
theorem sub_tie {i : Nat} (h : i < l.length) : tieN (sub E l) i = tieN E (l.getD i 0) := by
  unfold sub
  unfold tieN
  rw [List.getD_eq_getElem?_getD, List.getElem?_map, List.getElem?_eq_getElem h, List.getD_eq_getElem?_getD, List.getD_eq_getElem?_getD (l := l), List.getElem?_eq_getElem h, ← List.getD_eq_getElem?_getD]
  rfl
theorem sub_WOk (w : WOk n E) (h : ∀ t ∈ l, t < E.length) : WOk n (sub E l) := fun e he => by
  obtain ⟨t, ht, rfl⟩ := List.mem_map.mp he
  exact w _ (tieN_mem (h t ht))
theorem sub_Two (two : Two E s) (h : ∀ t ∈ l, t < E.length) : Two (sub E l) s := fun e he => by
  obtain ⟨t, ht, rfl⟩ := List.mem_map.mp he
  exact two _ (tieN_mem (h t ht))
theorem deg_sub : deg (sub E l) p = l.countP fun t => touch (tieN E t) p := by
  rw [deg_count]; unfold sub; rw [List.countP_map]; rfl
/-- ties taken away, of which no two meet and one is at each place whose count is the greatest -/
structure Gone (n : Nat) (E : List Tie) (l g : List Nat) : Prop where
  nd : l.Nodup
  inn : ∀ t ∈ g, t ∈ l
  apart : Apart E g
  full : ∀ p, p < n → deg (sub E l) p = mostAt n (K87.sub E l) → 0 < mostAt n (K87.sub E l) → ∃ t ∈ g, touch (tieN E t) p = true
theorem count_split (f : Nat → Bool) (g : List Nat) : ∀ l : List Nat, l.countP f = (l.filter fun t => decide (t ∉ g)).countP f + (l.filter fun t => decide (t ∈ g)).countP f
  | [] => rfl
  | a :: l => by
    have ih := count_split f g l
    by_cases h : a ∈ g
    · rw [List.filter_cons_of_neg (by simpa using h), List.filter_cons_of_pos (by simpa using h), List.countP_cons, List.countP_cons, ih]; omega
    · rw [List.filter_cons_of_pos (by simpa using h), List.filter_cons_of_neg (by simpa using h), List.countP_cons, List.countP_cons, ih]; omega
theorem Gone.one (G : Gone n E l g) : (l.filter fun t => decide (t ∈ g)).countP (fun t => touch (tieN E t) p) ≤ 1 := by
  by_cases h0 : (l.filter fun t => decide (t ∈ g)).countP (fun t => touch (tieN E t) p) = 0
  · omega
  · obtain ⟨a, ha, hat⟩ := List.countP_pos_iff.mp (Nat.pos_of_ne_zero h0)
    have hag : a ∈ g := by simpa using (List.mem_filter.mp ha).2
    rw [List.countP_eq_length_filter]
    have nd : ((l.filter fun t => decide (t ∈ g)).filter fun t => touch (tieN E t) p).Nodup := (G.nd.sublist List.filter_sublist).sublist List.filter_sublist
    have := len_le_of_sub (l' := [a]) nd fun b hb => by
      obtain ⟨b1, b2⟩ := List.mem_filter.mp hb
      have hbg : b ∈ g := by simpa using (List.mem_filter.mp b1).2
      rw [List.mem_singleton]
      exact G.apart b hbg a hag p b2 hat
    simpa using this
/-- the greatest count is one less -/
theorem Gone.less (G : Gone n E l g) (hm : 0 < mostAt n (K87.sub E l)) : mostAt n (K87.sub E (l.filter fun t => decide (t ∉ g))) = mostAt n (K87.sub E l) - 1 := by
  have at1 : ∀ p, p < n → deg (K87.sub E l) p = mostAt n (K87.sub E l) → deg (K87.sub E (l.filter fun t => decide (t ∉ g))) p = mostAt n (K87.sub E l) - 1 := fun p hp e => by
    obtain ⟨t, ht, htp⟩ := G.full p hp e hm
    have c := count_split (fun t => touch (tieN E t) p) g l
    have o := G.one (p := p)
    have pos : 0 < (l.filter fun t => decide (t ∈ g)).countP (fun t => touch (tieN E t) p) :=
      List.countP_pos_iff.mpr ⟨t, List.mem_filter.mpr ⟨G.inn t ht, by simpa using ht⟩, htp⟩
    rw [deg_sub] at e ⊢
    omega
  refine most_eq (fun p hp => ?_) fun h => ?_
  · by_cases e : deg (K87.sub E l) p = mostAt n (K87.sub E l)
    · rw [at1 p hp e]; exact Nat.le_refl _
    · have le := deg_le_most (E := K87.sub E l) hp
      have c := count_split (fun t => touch (tieN E t) p) g l
      rw [deg_sub] at e le ⊢
      omega
  · obtain ⟨p, hp, e⟩ := most_at_some (E := K87.sub E l) (most_pos hm)
    exact ⟨p, hp, at1 p hp e⟩
/-- .. and the greatest count of what was taken away is one at most -/
theorem most_apart {g : List Nat} (nd : g.Nodup) (ap : Apart E g) : mostAt n (K87.sub E g) ≤ 1 := most_le fun p _ => by
  rw [deg_sub]
  by_cases h0 : g.countP (fun t => touch (tieN E t) p) = 0
  · omega
  · obtain ⟨a, ha, hat⟩ := List.countP_pos_iff.mp (Nat.pos_of_ne_zero h0)
    rw [List.countP_eq_length_filter]
    have := len_le_of_sub (l' := [a]) (nd.sublist (List.filter_sublist (p := fun t => touch (tieN E t) p))) fun b hb => by
      obtain ⟨b1, b2⟩ := List.mem_filter.mp hb
      rw [List.mem_singleton]
      exact ap b b1 a ha p b2 hat
    simpa using this
/-- a full pairing of these ties, told by their own numbers -/
theorem FullP.gone {ts : List Nat} (hl : l.Nodup) (P : FullP n (K87.sub E l) ts) : Gone n E l (ts.map fun i => l.getD i 0) := by
  have mem : ∀ i ∈ ts, i < l.length := fun i hi => by have := P.lt i hi; rwa [sub_length] at this
  refine ⟨hl, fun t ht => ?_, fun a ha b hb p h1 h2 => ?_, fun p hp e hm => ?_⟩
  · obtain ⟨i, hi, rfl⟩ := List.mem_map.mp ht
    rw [List.getD_eq_getElem?_getD, List.getElem?_eq_getElem (mem i hi)]
    exact List.getElem_mem _
  · obtain ⟨i, hi, rfl⟩ := List.mem_map.mp ha
    obtain ⟨j, hj, rfl⟩ := List.mem_map.mp hb
    rw [← sub_tie (mem i hi)] at h1
    rw [← sub_tie (mem j hj)] at h2
    rw [P.apart i hi j hj p h1 h2]
  · obtain ⟨i, hi, h⟩ := P.full p hp e hm
    exact ⟨_, List.mem_map.mpr ⟨i, hi, rfl⟩, by rw [← sub_tie (mem i hi)]; exact h⟩
theorem sub_range : K87.sub E (List.range E.length) = E := by
  unfold K87.sub
  refine List.ext_getElem? fun i => ?_
  by_cases h : i < E.length
  · rw [List.getElem?_map, List.getElem?_range h, tieN_get h]; rfl
  · rw [List.getElem?_eq_none (by simpa using h), List.getElem?_eq_none (by simpa using h)]
theorem sub_sub {i : List Nat} (h : ∀ x ∈ i, x < l.length) : K87.sub (K87.sub E l) i = K87.sub E (i.map fun x => l.getD x 0) := by
  unfold K87.sub
  rw [List.map_map]
  exact List.map_congr_left fun x hx => by
    have := sub_tie (E := E) (h x hx)
    unfold K87.sub at this
    exact this
end
end K87
/-! halving -/
namespace K87
def cnt (G : List Tie) (fd : Nat → Option Bool) (v : Nat) (b : Bool) : Nat := (List.range G.length).countP fun t => touch (tieN G t) v && (fd t == some b)
theorem countP_set {f g : Nat → Bool} {t : Nat} : ∀ {l : List Nat}, l.Nodup → t ∈ l → (∀ x, x ≠ t → g x = f x) → f t = false → l.countP g = l.countP f + if g t then 1 else 0
  | [], _, h, _, _ => by simp at h
  | a :: l, nd, h, he, hf => by
    obtain ⟨n1, n2⟩ := List.nodup_cons.mp nd
    rw [List.countP_cons, List.countP_cons]
    by_cases e : a = t
    · subst e
      have e1 : l.countP g = l.countP f := List.countP_congr fun x hx => by rw [he x fun z => n1 (z ▸ hx)]
      rw [e1, hf]; simp
    · have ih := countP_set n2 ((List.mem_cons.mp h).resolve_left fun z => e z.symm) he hf
      rw [ih, he a e]; omega
theorem cnt_set {G : List Tie} {fd : Nat → Option Bool} {t v : Nat} {b c : Bool} (ht : t < G.length) (hn : fd t = none) :
    cnt G (setf fd t (some b)) v c = cnt G fd v c + if touch (tieN G t) v && (b == c) then 1 else 0 := by
  unfold cnt
  rw [countP_set (f := fun x => touch (tieN G x) v && (fd x == some c)) List.nodup_range (List.mem_range.mpr ht) (fun x hx => by rw [setf_ne hx]) (by rw [hn]; simp)]
  rw [setf_same]
  cases b <;> cases c <;> simp
/-- all that is left on the piles -/
def piles (N : Nat) (L : Nat → List Nat) : Nat := sumL ((List.range N).map fun v => (L v).length)
theorem sumL_append (a b : List Nat) : sumL (a ++ b) = sumL a + sumL b := by
  induction a with
  | nil => simp [sumL]
  | cons x a ih => rw [List.cons_append, sumL_cons, sumL_cons, ih]; omega
theorem piles_set {L : Nat → List Nat} {v : Nat} {l : List Nat} : ∀ {N : Nat}, v < N → piles N (setf L v l) + (L v).length = piles N L + l.length
  | 0, h => absurd h (Nat.not_lt_zero _)
  | N + 1, h => by
    have un : ∀ L : Nat → List Nat, piles (N + 1) L = piles N L + (L N).length := fun L => by
      unfold piles
      rw [List.range_succ, List.map_append, sumL_append]
      simp [sumL]
    rw [un, un]
    by_cases e : v = N
    · subst e
      have e1 : piles v (setf L v l) = piles v L := by
        unfold piles
        congr 1
        exact List.map_congr_left fun x hx => by rw [setf_ne (Nat.ne_of_lt (List.mem_range.mp hx))]
      rw [e1, setf_same]; omega
    · have ih := piles_set (L := L) (l := l) (N := N) (v := v) (by omega)
      rw [setf_ne (Ne.symm e)]; omega
structure TAll (N : Nat) (G : List Tie) (L : Nat → List Nat) (fd : Nat → Option Bool) : Prop where
  sub : ∀ v, v < N → ∀ t ∈ L v, t < G.length ∧ touch (tieN G t) v = true
  cov : ∀ v, v < N → ∀ t, t < G.length → touch (tieN G t) v = true → t ∈ L v ∨ fd t ≠ none
structure TInv (N : Nat) (G : List Tie) (s : Nat → Bool) (start : Nat) (L : Nat → List Nat) (fd : Nat → Option Bool) (here : Nat) (turn : Bool) : Prop where
  all : TAll N G L fd
  hl : here < N
  par : turn = (s here != s start)
  bal : ∀ v, v < N → (cnt G fd v false : Int) - cnt G fd v true = (if v = start then 1 else 0) + (if v = here then (if turn then 1 else -1) else 0)
def Even (N : Nat) (G : List Tie) : Prop := ∀ v, v < N → deg G v % 2 = 0
def Bal (N : Nat) (G : List Tie) (fd : Nat → Option Bool) : Prop := ∀ v, v < N → cnt G fd v false = cnt G fd v true
section
variable {N : Nat} {G : List Tie} {s : Nat → Bool} {z0 here t : Nat} {L : Nat → List Nat} {fd : Nat → Option Bool} {turn : Bool} {l : List Nat}
theorem TInv.start (A : TAll N G L fd) (B : Bal N G fd) (h : z0 < N) : TInv N G s z0 L fd z0 false :=
  ⟨A, h, by cases s z0 <;> rfl, fun v hv => by
    rw [B v hv]
    by_cases e : v = z0
    · rw [if_pos e, if_pos e]; simp
    · rw [if_neg e, if_neg e]; simp⟩
theorem TInv.skip (I : TInv N G s z0 L fd here turn) (hp : L here = l ++ [t]) (hf : fd t ≠ none) : TInv N G s z0 (setf L here l) fd here turn := by
  refine ⟨⟨fun v hv x hx => ?_, fun v hv x hx htx => ?_⟩, I.hl, I.par, I.bal⟩
  · by_cases e : v = here
    · subst e
      rw [setf_same] at hx
      exact I.all.sub v hv x (by rw [hp]; exact List.mem_append_left _ hx)
    · rw [setf_ne e] at hx
      exact I.all.sub v hv x hx
  · by_cases e : v = here
    · subst e
      rw [setf_same]
      rcases I.all.cov v hv x hx htx with z | z
      · rw [hp] at z
        rcases List.mem_append.mp z with z | z
        · exact .inl z
        · rw [List.mem_singleton] at z
          exact .inr (z ▸ hf)
      · exact .inr z
    · rw [setf_ne e]
      exact I.all.cov v hv x hx htx
theorem TInv.take (w : WOk N G) (two : Two G s) (I : TInv N G s z0 L fd here turn) (hp : L here = l ++ [t]) (hf : fd t = none) :
    t < G.length ∧ touch (tieN G t) here = true ∧ TInv N G s z0 (setf L here l) (setf fd t (some turn)) (far (tieN G t) here) (!turn) := by
  obtain ⟨t1, t2⟩ := I.all.sub here I.hl t (by rw [hp]; exact List.mem_append_right _ (by simp))
  refine ⟨t1, t2, ⟨⟨fun v hv x hx => ?_, fun v hv x hx htx => ?_⟩, far_lt w t1, ?_, fun v hv => ?_⟩⟩
  · by_cases e : v = here
    · subst e
      rw [setf_same] at hx
      exact I.all.sub v hv x (by rw [hp]; exact List.mem_append_left _ hx)
    · rw [setf_ne e] at hx
      exact I.all.sub v hv x hx
  · by_cases ex : x = t
    · exact .inr (by rw [ex, setf_same]; simp)
    · rw [setf_ne ex]
      by_cases e : v = here
      · subst e
        rw [setf_same]
        rcases I.all.cov v hv x hx htx with z | z
        · rw [hp] at z
          rcases List.mem_append.mp z with z | z
          · exact .inl z
          · rw [List.mem_singleton] at z
            exact absurd z ex
        · exact .inr z
      · rw [setf_ne e]
        exact I.all.cov v hv x hx htx
  · rw [side_far two t1 t2, I.par]
    cases s here <;> cases s z0 <;> rfl
  · have ne : far (tieN G t) here ≠ here := far_ne (ends_ne w t1)
    have b := I.bal v hv
    rw [cnt_set t1 hf, cnt_set t1 hf]
    by_cases hvt : touch (tieN G t) v = true
    · rw [hvt]
      rcases touch_cases t2 hvt with z | z
      · subst z
        rw [if_pos rfl] at b
        rw [if_neg (Ne.symm ne)]
        cases turn <;> simp at b ⊢ <;> omega
      · subst z
        rw [if_neg ne] at b
        rw [if_pos rfl]
        cases turn <;> simp at b ⊢ <;> omega
    · have hvt' : touch (tieN G t) v = false := by simpa using hvt
      rw [hvt']
      have e1 : v ≠ here := fun z => hvt (z ▸ t2)
      have e2 : v ≠ far (tieN G t) here := fun z => hvt (z ▸ far_touch t2)
      rw [if_neg e1] at b
      rw [if_neg e2]
      simp at b ⊢; omega
theorem cnt_all (I : TAll N G L fd) {v : Nat} (hv : v < N) (hl : L v = []) : cnt G fd v false + cnt G fd v true = deg G v := by
  have e1 : deg G v = (List.range G.length).countP fun t => touch (tieN G t) v := by
    unfold deg tiesAt; rw [List.countP_eq_length_filter]
  rw [e1]; unfold cnt
  have go : ∀ l : List Nat, (∀ t ∈ l, t < G.length) → (l.countP fun t => touch (tieN G t) v && (fd t == some false)) + (l.countP fun t => touch (tieN G t) v && (fd t == some true)) = l.countP fun t => touch (tieN G t) v := by
    intro l
    induction l with
    | nil => intro _; rfl
    | cons a l ih =>
      intro h
      have ih := ih fun t ht => h t (List.mem_cons_of_mem _ ht)
      rw [List.countP_cons, List.countP_cons, List.countP_cons, ← ih]
      by_cases ha : touch (tieN G a) v = true
      · rcases I.cov v hv a (h a List.mem_cons_self) ha with z | z
        · rw [hl] at z; simp at z
        · cases e : fd a with
          | none => exact absurd e z
          | some b => rw [ha]; cases b <;> simp <;> omega
      · have ha' : touch (tieN G a) v = false := by simpa using ha
        rw [ha']; simp
  exact go _ fun t ht => List.mem_range.mp ht
/-- the way is shut where it begins -/
theorem TInv.shut (ev : Even N G) (I : TInv N G s z0 L fd here turn) (hl : L here = []) : here = z0 ∧ Bal N G fd := by
  have c := cnt_all I.all I.hl hl
  have e := ev here I.hl
  have b := I.bal here I.hl
  have hs : here = z0 := by
    by_cases q : here = z0
    · exact q
    · exfalso
      rw [if_neg q, if_pos rfl] at b
      cases turn <;> simp at b <;> omega
  subst hs
  have ht : turn = false := by rw [I.par]; cases s here <;> rfl
  subst ht
  refine ⟨rfl, fun v hv => ?_⟩
  have b := I.bal v hv
  by_cases q : v = here
  · rw [if_pos q, if_pos q] at b; simp at b; omega
  · rw [if_neg q, if_neg q] at b; simp at b; omega
end
/-! the ties added -/
def odds (n : Nat) (E : List Tie) : List Nat := (List.range n).filter fun p => deg E p % 2 == 1
def extra (n : Nat) (E : List Tie) (s : Nat → Bool) : List Tie :=
  (odds n E).map (fun p => (p, n + if s p then 1 else 0)) ++ if ((odds n E).filter fun p => s p == false).length % 2 = 1 then [(n, n + 1)] else []
def evened (n : Nat) (E : List Tie) (s : Nat → Bool) : List Tie := E ++ extra n E s
def sideX (n : Nat) (s : Nat → Bool) : Nat → Bool := fun v => if v < n then s v else v == n
section
variable {n : Nat} {E : List Tie} {s : Nat → Bool}
theorem odds_lt {p : Nat} (h : p ∈ odds n E) : p < n := List.mem_range.mp (List.mem_filter.mp h).1
theorem extra_mem {e : Tie} (h : e ∈ extra n E s) : (∃ p, p ∈ odds n E ∧ e = (p, n + if s p then 1 else 0)) ∨ e = (n, n + 1) := by
  unfold extra at h
  rcases List.mem_append.mp h with z | z
  · obtain ⟨p, hp, e1⟩ := List.mem_map.mp z
    exact .inl ⟨p, hp, e1.symm⟩
  · split at z
    · exact .inr (by simpa using z)
    · simp at z
theorem evened_WOk (w : WOk n E) : WOk (n + 2) (evened n E s) := fun e he => by
  rcases List.mem_append.mp he with z | z
  · have := w e z; omega
  · rcases extra_mem z with ⟨p, hp, rfl⟩ | rfl
    · have := odds_lt hp
      show p < _ ∧ _ < n + 2
      split <;> omega
    · show n < n + 1 ∧ n + 1 < n + 2
      omega
theorem evened_Two (w : WOk n E) (two : Two E s) : Two (evened n E s) (sideX n s) := fun e he => by
  unfold sideX
  rcases List.mem_append.mp he with z | z
  · have h := w e z
    rw [if_pos (by omega), if_pos (by omega)]
    exact two e z
  · rcases extra_mem z with ⟨p, hp, rfl⟩ | rfl
    · have := odds_lt hp
      have h2 : ¬ (n + (if s p = true then 1 else 0) < n) := by split <;> omega
      show (if p < n then s p else _) ≠ (if n + (if s p = true then 1 else 0) < n then _ else n + (if s p = true then 1 else 0) == n)
      rw [if_pos this, if_neg h2]
      cases s p <;> simp
    · show (if n < n then _ else _) ≠ (if n + 1 < n then _ else _)
      rw [if_neg (by omega), if_neg (by omega)]
      simp
theorem deg_append (A B : List Tie) (v : Nat) : deg (A ++ B) v = deg A v + deg B v := by
  rw [deg_count, deg_count, deg_count, List.countP_append]
theorem nodup_count {l : List Nat} (h : l.Nodup) (v : Nat) : l.countP (fun p => p == v) = if v ∈ l then 1 else 0 := by
  induction l with
  | nil => simp
  | cons a l ih =>
    obtain ⟨h1, h2⟩ := List.nodup_cons.mp h
    rw [List.countP_cons, ih h2]
    by_cases e : a = v
    · subst e
      simp [h1]
    · simp [e, Ne.symm e]
theorem odds_nodup : (odds n E).Nodup := List.nodup_range.sublist List.filter_sublist
/-- the added ties at a place of the web -/
theorem deg_extra {v : Nat} (hv : v < n) : deg (extra n E s) v = deg E v % 2 := by
  unfold extra
  rw [deg_append]
  have e2 : deg (if ((odds n E).filter fun p => s p == false).length % 2 = 1 then [(n, n + 1)] else []) v = 0 := by
    rw [deg_count]
    split
    · rw [List.countP_singleton]
      have : touch (n, n + 1) v = false := by unfold touch; simp; omega
      rw [this]; simp
    · rfl
  rw [e2, deg_count, List.countP_map]
  have e1 : (odds n E).countP ((fun e => touch e v) ∘ fun p => (p, n + if s p then 1 else 0)) = (odds n E).countP fun p => p == v := List.countP_congr fun p hp => by
    show touch (p, n + if s p then 1 else 0) v = true ↔ _
    unfold touch
    simp
    intro z
    split at z <;> omega
  rw [e1, nodup_count odds_nodup]
  have hm : v ∈ odds n E ↔ deg E v % 2 = 1 := by
    unfold odds
    rw [List.mem_filter, List.mem_range]
    simp [hv]
  by_cases h : deg E v % 2 = 1
  · rw [if_pos (hm.mpr h), h]
  · rw [if_neg (fun z => h (hm.mp z))]; omega
theorem sum_mod2 (f : Nat → Nat) : ∀ l : List Nat, sumL (l.map f) % 2 = (l.countP fun p => f p % 2 == 1) % 2
  | [] => rfl
  | a :: l => by
    have ih := sum_mod2 f l
    rw [List.map_cons, sumL_cons, List.countP_cons]
    by_cases h : f a % 2 = 1
    · simp [h]; omega
    · have : f a % 2 = 0 := by omega
      simp [this]; omega
/-- each tie has one end on each side -/
theorem side_sum (w : WOk n E) (two : Two E s) (b : Bool) : sumL (((List.range n).filter fun p => s p == b).map (deg E)) = E.length := by
  rw [sum_deg]
  have : ∀ e ∈ E, ((List.range n).filter fun p => s p == b).countP (fun p => touch e p) = 1 := fun e he => by
    obtain ⟨t, ht, rfl⟩ := mem_tieN he
    obtain ⟨p, h1, h2, h3, h4⟩ := left_end two ht
    have one : ∃ q, touch (tieN E t) q = true ∧ s q = b := by
      cases b
      · exact ⟨p, h1, h2⟩
      · exact ⟨_, h3, h4⟩
    obtain ⟨q, q1, q2⟩ := one
    have hq := touch_lt w ht q1
    have e1 : ((List.range n).filter fun p => s p == b).countP (fun p => touch (tieN E t) p) = ((List.range n).filter fun p => s p == b).countP (fun p => p == q) := List.countP_congr fun x hx => by
      have hx2 : s x = b := by simpa using (List.mem_filter.mp hx).2
      constructor
      · intro z
        rcases touch_cases q1 z with y | y
        · simp [y]
        · have := side_far two ht q1
          rw [← y, hx2, q2] at this
          cases b <;> cases this
      · intro z
        have z : x = q := by simpa using z
        rw [z]; exact q1
    rw [e1, nodup_count (List.nodup_range.sublist List.filter_sublist), if_pos]
    exact List.mem_filter.mpr ⟨List.mem_range.mpr hq, by simp [q2]⟩
  rw [sumL_const _ 1 E this]; omega
theorem odd_side (w : WOk n E) (two : Two E s) (b : Bool) : ((odds n E).filter fun p => s p == b).length % 2 = E.length % 2 := by
  have h := sum_mod2 (deg E) ((List.range n).filter fun p => s p == b)
  rw [side_sum w two] at h
  rw [h]
  unfold odds
  rw [List.countP_eq_length_filter, List.filter_filter, List.filter_filter]
  congr 2
  exact List.filter_congr fun p _ => by cases (s p == b) <;> cases (deg E p % 2 == 1) <;> rfl
theorem evened_Even (w : WOk n E) (two : Two E s) : Even (n + 2) (evened n E s) := fun v hv => by
  unfold evened
  rw [deg_append]
  by_cases h : v < n
  · rw [deg_extra h]; omega
  · have e0 : deg E v = 0 := by
      rw [deg_count, List.countP_eq_zero]
      intro e he z
      have := w e he
      rcases touch_iff.mp z with z | z <;> omega
    rw [e0, Nat.zero_add]
    have c0 := odd_side w two false
    have c1 := odd_side w two true
    unfold extra
    rw [deg_append, deg_count, List.countP_map]
    have key : ∀ b : Bool, v = n + (if b then 1 else 0) → (odds n E).countP ((fun e => touch e v) ∘ fun p => (p, n + if s p then 1 else 0)) = ((odds n E).filter fun p => s p == b).length := fun b hb => by
      rw [← List.countP_eq_length_filter]
      exact List.countP_congr fun p hp => by
        have := odds_lt hp
        show touch (p, n + if s p then 1 else 0) v = true ↔ _
        unfold touch
        rw [hb]
        cases b <;> cases s p <;> simp <;> omega
    have two' : v = n ∨ v = n + 1 := by omega
    rcases two' with e | e
    · rw [key false (by simp [e])]
      rw [deg_count]
      by_cases q : ((odds n E).filter fun p => s p == false).length % 2 = 1
      · rw [if_pos q, List.countP_singleton]
        have : touch (n, n + 1) v = true := touch_iff.mpr (.inl e.symm)
        rw [this, if_pos rfl]; omega
      · rw [if_neg q, List.countP_nil]; omega
    · rw [key true (by simp [e])]
      rw [deg_count]
      by_cases q : ((odds n E).filter fun p => s p == false).length % 2 = 1
      · rw [if_pos q, List.countP_singleton]
        have : touch (n, n + 1) v = true := touch_iff.mpr (.inr e.symm)
        rw [this, if_pos rfl]; omega
      · rw [if_neg q, List.countP_nil]; omega
/-- the two halves -/
def half (m : Nat) (fd : Nat → Option Bool) (b : Bool) : List Nat := (List.range m).filter fun t => fd t == some b
structure Halved (n : Nat) (E : List Tie) (h0 h1 : List Nat) : Prop where
  nd0 : h0.Nodup
  nd1 : h1.Nodup
  lt0 : ∀ t ∈ h0, t < E.length
  lt1 : ∀ t ∈ h1, t < E.length
  le0 : ∀ p, p < n → deg (sub E h0) p ≤ deg (sub E h1) p + 1
  le1 : ∀ p, p < n → deg (sub E h1) p ≤ deg (sub E h0) p + 1
  sum : ∀ p, p < n → deg (sub E h0) p + deg (sub E h1) p ≤ deg E p
theorem half_deg (fd : Nat → Option Bool) (b : Bool) (p : Nat) : deg (sub E (half E.length fd b)) p = (List.range E.length).countP fun t => touch (tieN E t) p && (fd t == some b) := by
  rw [deg_sub]; unfold half
  rw [List.countP_filter]
theorem cnt_split {A B : List Tie} (fd : Nat → Option Bool) (v : Nat) (b : Bool) : cnt (A ++ B) fd v b = (List.range A.length).countP (fun t => touch (tieN A t) v && (fd t == some b)) + (List.range B.length).countP (fun t => touch (tieN B t) v && (fd (A.length + t) == some b)) := by
  unfold cnt
  rw [List.length_append, List.range_add, List.countP_append, List.countP_map]
  congr 1
  · refine List.countP_congr fun t ht => ?_
    have ht := List.mem_range.mp ht
    have e : tieN (A ++ B) t = tieN A t := by
      unfold tieN
      rw [List.getD_eq_getElem?_getD, List.getElem?_append_left ht, ← List.getD_eq_getElem?_getD]
    rw [e]
  · refine List.countP_congr fun t ht => ?_
    have e : tieN (A ++ B) (A.length + t) = tieN B t := by
      unfold tieN
      rw [List.getD_eq_getElem?_getD, List.getElem?_append_right (by omega), Nat.add_sub_cancel_left, ← List.getD_eq_getElem?_getD]
    show (touch (tieN (A ++ B) (A.length + t)) v && (fd (A.length + t) == some b)) = true ↔ _
    rw [e]
theorem two_le (f : Nat → Option Bool) (g : Nat → Bool) : ∀ l : List Nat, (l.countP fun t => g t && (f t == some false)) + (l.countP fun t => g t && (f t == some true)) ≤ l.countP g
  | [] => Nat.le_refl _
  | a :: l => by
    have ih := two_le f g l
    rw [List.countP_cons, List.countP_cons, List.countP_cons]
    cases g a
    · simp; exact ih
    · cases f a with
      | none => simp; omega
      | some b => cases b <;> simp <;> omega
theorem halved {fd : Nat → Option Bool} (B : Bal (n + 2) (evened n E s) fd) : Halved n E (half E.length fd false) (half E.length fd true) := by
  have key : ∀ p, p < n → deg (sub E (half E.length fd false)) p ≤ deg (sub E (half E.length fd true)) p + 1 ∧ deg (sub E (half E.length fd true)) p ≤ deg (sub E (half E.length fd false)) p + 1 := fun p hp => by
    have b := B p (by omega)
    unfold evened at b
    rw [cnt_split, cnt_split, ← half_deg (E := E) fd false p, ← half_deg (E := E) fd true p] at b
    have le := two_le (fun t => fd (E.length + t)) (fun t => touch (tieN (extra n E s) t) p) (List.range (extra n E s).length)
    have de := deg_extra (E := E) (s := s) hp
    have e1 : deg (extra n E s) p = (List.range (extra n E s).length).countP fun t => touch (tieN (extra n E s) t) p := by
      unfold deg tiesAt; rw [List.countP_eq_length_filter]
    rw [← e1, de] at le
    omega
  refine ⟨List.nodup_range.sublist List.filter_sublist, List.nodup_range.sublist List.filter_sublist, fun t ht => List.mem_range.mp (List.mem_filter.mp ht).1, fun t ht => List.mem_range.mp (List.mem_filter.mp ht).1, fun p hp => (key p hp).1, fun p hp => (key p hp).2, fun p hp => ?_⟩
  rw [half_deg, half_deg]
  have le := two_le fd (fun t => touch (tieN E t) p) (List.range E.length)
  have e1 : deg E p = (List.range E.length).countP fun t => touch (tieN E t) p := by
    unfold deg tiesAt; rw [List.countP_eq_length_filter]
  rw [e1]; exact le
theorem Halved.most0 {h0 h1 : List Nat} (H : Halved n E h0 h1) : mostAt n (sub E h0) ≤ (mostAt n E + 1) / 2 := most_le fun p hp => by
  have a := H.le0 p hp
  have b := H.sum p hp
  have c := deg_le_most (E := E) hp
  omega
theorem Halved.most1 {h0 h1 : List Nat} (H : Halved n E h0 h1) : mostAt n (sub E h1) ≤ (mostAt n E + 1) / 2 := most_le fun p hp => by
  have a := H.le1 p hp
  have b := H.sum p hp
  have c := deg_le_most (E := E) hp
  omega
end
end K87
/-! hueings, rows of two hues, steps -/
namespace K87
abbrev Hue := Nat → Option Nat
def Proper (E : List Tie) (h : Hue) : Prop := ∀ t u p c, t < E.length → u < E.length → touch (tieN E t) p = true → touch (tieN E u) p = true → h t = some c → h u = some c → t = u
def NoAt (E : List Tie) (h : Hue) (p c : Nat) : Prop := ∀ t, t < E.length → touch (tieN E t) p = true → h t ≠ some c
def usedAt (E : List Tie) (h : Hue) (p c : Nat) : Bool := (tiesAt E p).any fun t => h t == some c
def freeL (E : List Tie) (h : Hue) (p k : Nat) : List Nat := (List.range k).filter fun c => !usedAt E h p c
def tieOf (E : List Tie) (h : Hue) (p c : Nat) : Option Nat := (tiesAt E p).find? fun t => h t == some c
def rowL (E : List Tie) (h : Hue) : Nat → Nat → Nat → Nat → List Nat
  | 0, _, _, _ => []
  | k + 1, p, a, b => match tieOf E h p a with
    | none => []
    | some t => t :: rowL E h k (far (tieN E t) p) b a
def rowEnds (E : List Tie) (h : Hue) : Nat → Nat → Nat → Nat → Prop
  | 0, p, a, _ => tieOf E h p a = none
  | k + 1, p, a, b => match tieOf E h p a with
    | none => True
    | some t => rowEnds E h k (far (tieN E t) p) b a
def swapF (a b : Nat) (l : List Nat) (h : Hue) : Hue := fun t => if t ∈ l then (if h t = some a then some b else some a) else h t
section
variable {n : Nat} {E : List Tie} {s : Nat → Bool} {h : Hue} {p c t : Nat}
theorem used_iff : usedAt E h p c = true ↔ ∃ t, t < E.length ∧ touch (tieN E t) p = true ∧ h t = some c := by
  unfold usedAt
  rw [List.any_eq_true]
  constructor
  · rintro ⟨t, ht, e⟩
    obtain ⟨h1, h2⟩ := mem_tiesAt.mp ht
    exact ⟨t, h1, h2, by simpa using e⟩
  · rintro ⟨t, h1, h2, e⟩
    exact ⟨t, mem_tiesAt.mpr ⟨h1, h2⟩, by simpa using e⟩
theorem mem_freeL {k : Nat} : c ∈ freeL E h p k ↔ c < k ∧ NoAt E h p c := by
  unfold freeL
  rw [List.mem_filter, List.mem_range]
  refine and_congr_right fun _ => ?_
  rw [Bool.not_eq_true', ← Bool.not_eq_true, used_iff]
  exact ⟨fun q t h1 h2 e => q ⟨t, h1, h2, e⟩, fun q ⟨t, h1, h2, e⟩ => q t h1 h2 e⟩
theorem free_some {k : Nat} (hk : deg E p ≤ k) (ht : t < E.length) (htp : touch (tieN E t) p = true) (hn : h t = none) : freeL E h p k ≠ [] := by
  intro e
  have all : ∀ c, c < k → c ∈ ((tiesAt E p).erase t).filterMap h := fun c hc => by
    have : ¬ c ∈ freeL E h p k := by rw [e]; simp
    rw [mem_freeL] at this
    have : ¬ NoAt E h p c := fun q => this ⟨hc, q⟩
    have u : usedAt E h p c = true := by
      cases q : usedAt E h p c with
      | true => rfl
      | false =>
        exfalso; apply this
        intro t h1 h2 h3
        have := used_iff.mpr ⟨t, h1, h2, h3⟩
        rw [q] at this; cases this
    obtain ⟨u, h1, h2, h3⟩ := used_iff.mp u
    refine List.mem_filterMap.mpr ⟨u, ?_, h3⟩
    have ne : u ≠ t := fun z => by rw [z, hn] at h3; cases h3
    exact (List.mem_erase_of_ne ne).mpr (mem_tiesAt.mpr ⟨h1, h2⟩)
  have l1 := len_le_of_sub (l := List.range k) (l' := ((tiesAt E p).erase t).filterMap h) List.nodup_range fun c hc => all c (List.mem_range.mp hc)
  rw [List.length_range] at l1
  have l2 : (((tiesAt E p).erase t).filterMap h).length ≤ ((tiesAt E p).erase t).length := List.length_filterMap_le _ _
  rw [List.length_erase_of_mem (mem_tiesAt.mpr ⟨ht, htp⟩)] at l2
  have pos := deg_pos ht htp
  unfold deg at hk pos
  omega
theorem tieOf_some (e : tieOf E h p c = some t) : t < E.length ∧ touch (tieN E t) p = true ∧ h t = some c := by
  unfold tieOf at e
  obtain ⟨h1, h2⟩ := mem_tiesAt.mp (List.mem_of_find?_eq_some e)
  exact ⟨h1, h2, by simpa using List.find?_some e⟩
theorem tieOf_none (e : tieOf E h p c = none) : NoAt E h p c := fun t h1 h2 h3 => by
  unfold tieOf at e
  rw [List.find?_eq_none] at e
  exact e t (mem_tiesAt.mpr ⟨h1, h2⟩) (by simpa using h3)
theorem tieOf_of (P : Proper E h) (h1 : t < E.length) (h2 : touch (tieN E t) p = true) (h3 : h t = some c) : tieOf E h p c = some t := by
  cases e : tieOf E h p c with
  | none => exact absurd h3 (tieOf_none e t h1 h2)
  | some u =>
    obtain ⟨u1, u2, u3⟩ := tieOf_some e
    rw [P u t p c u1 h1 u2 h2 u3 h3]
end
/-! the way of a row: a place, and whether the other hue is due -/
def col (c0 c1 : Nat) (b : Bool) : Nat := if b then c1 else c0
def nxt (E : List Tie) (h : Hue) (c0 c1 : Nat) (v : Nat × Bool) : Option (Nat × Bool) := (tieOf E h v.1 (col c0 c1 v.2)).map fun t => (far (tieN E t) v.1, !v.2)
structure RowInv (n : Nat) (E : List Tie) (s : Nat → Bool) (h : Hue) (p0 c0 c1 : Nat) (ini : List (Nat × Bool)) (cur : Nat × Bool) (fo : List Nat) : Prop where
  nd : (ini ++ [cur]).Nodup
  lt : ∀ v ∈ ini ++ [cur], v.1 < n
  pre : ∀ v ∈ ini ++ [cur], v = (p0, false) ∨ ∃ u ∈ ini, nxt E h c0 c1 u = some v
  on : ∀ u ∈ ini, ∃ v ∈ ini ++ [cur], nxt E h c0 c1 u = some v
  fo : ∀ t, t ∈ fo ↔ ∃ u ∈ ini, tieOf E h u.1 (col c0 c1 u.2) = some t
  st : (p0, false) ∈ ini ++ [cur]
  sd : ∀ v ∈ ini ++ [cur], s v.1 = (s p0 != v.2)
section
variable {n : Nat} {E : List Tie} {s : Nat → Bool} {h : Hue} {p0 c0 c1 : Nat} {ini : List (Nat × Bool)} {cur : Nat × Bool} {fo : List Nat}
theorem nxt_some {u v : Nat × Bool} (e : nxt E h c0 c1 u = some v) : ∃ t, tieOf E h u.1 (col c0 c1 u.2) = some t ∧ v = (far (tieN E t) u.1, !u.2) := by
  unfold nxt at e
  obtain ⟨t, h1, h2⟩ := Option.map_eq_some_iff.mp e
  exact ⟨t, h1, h2.symm⟩
theorem nxt_of {u : Nat × Bool} {t : Nat} (e : tieOf E h u.1 (col c0 c1 u.2) = some t) : nxt E h c0 c1 u = some (far (tieN E t) u.1, !u.2) := by
  unfold nxt; rw [e]; rfl
theorem nxt_inj (w : WOk n E) (P : Proper E h) {u u' v : Nat × Bool} (e : nxt E h c0 c1 u = some v) (e' : nxt E h c0 c1 u' = some v) : u = u' := by
  obtain ⟨t, h1, h2⟩ := nxt_some e
  obtain ⟨t', h1', h2'⟩ := nxt_some e'
  obtain ⟨a1, a2, a3⟩ := tieOf_some h1
  obtain ⟨b1, b2, b3⟩ := tieOf_some h1'
  rw [h2] at h2'
  injection h2' with q1 q2
  have q2 : u.2 = u'.2 := by
    cases x : u.2 <;> cases y : u'.2 <;> rw [x, y] at q2 <;> first | rfl | cases q2
  rw [← q2] at b3
  have tt : t = t' := P t t' (far (tieN E t) u.1) _ a1 b1 (far_touch a2) (by rw [q1]; exact far_touch b2) a3 b3
  subst tt
  have p1 : u.1 = u'.1 := by
    have f1 := far_far (ends_ne w a1) a2
    have f2 := far_far (ends_ne w a1) b2
    rw [← f1, ← f2, q1]
  exact Prod.ext p1 q2
theorem no_pre (no : NoAt E h p0 c1) {u : Nat × Bool} (e : nxt E h c0 c1 u = some (p0, false)) : False := by
  obtain ⟨t, h1, h2⟩ := nxt_some e
  injection h2 with q1 q2
  have q2 : u.2 = true := by cases x : u.2 <;> rw [x] at q2 <;> first | rfl | cases q2
  rw [q2] at h1
  obtain ⟨a1, a2, a3⟩ := tieOf_some h1
  exact no t a1 (by rw [q1]; exact far_touch a2) a3
theorem RowInv.start (hp : p0 < n) : RowInv n E s h p0 c0 c1 [] (p0, false) [] :=
  ⟨by simp, fun v hv => by simp at hv; rw [hv]; exact hp, fun v hv => by simp at hv; exact .inl hv, fun u hu => by simp at hu, fun t => by simp, by simp, fun v hv => by
    simp at hv; rw [hv]; cases s p0 <;> rfl⟩
theorem RowInv.more (w : WOk n E) (two : Two E s) (P : Proper E h) (no : NoAt E h p0 c1) (I : RowInv n E s h p0 c0 c1 ini cur fo) {t : Nat} (e : tieOf E h cur.1 (col c0 c1 cur.2) = some t) :
    RowInv n E s h p0 c0 c1 (ini ++ [cur]) (far (tieN E t) cur.1, !cur.2) (fo ++ [t]) := by
  have en := nxt_of e
  obtain ⟨a1, a2, a3⟩ := tieOf_some e
  have new : (far (tieN E t) cur.1, !cur.2) ∉ ini ++ [cur] := fun hm => by
    rcases I.pre _ hm with z | ⟨u, hu, z⟩
    · rw [z] at en; exact no_pre no en
    · have := nxt_inj w P z en
      subst this
      have nd := I.nd
      rw [List.nodup_append] at nd
      exact nd.2.2 u hu u (by simp) rfl
  refine ⟨nodup_snoc I.nd new, fun v hv => ?_, fun v hv => ?_, fun u hu => ?_, fun x => ?_, List.mem_append_left _ I.st, fun v hv => ?_⟩
  · rcases List.mem_append.mp hv with z | z
    · exact I.lt v z
    · rw [List.mem_singleton] at z
      rw [z]; exact far_lt w a1
  · rcases List.mem_append.mp hv with z | z
    · rcases I.pre v z with y | ⟨u, hu, y⟩
      · exact .inl y
      · exact .inr ⟨u, List.mem_append_left _ hu, y⟩
    · rw [List.mem_singleton] at z
      exact .inr ⟨cur, List.mem_append_right _ (by simp), by rw [z]; exact en⟩
  · rcases List.mem_append.mp hu with z | z
    · obtain ⟨v, hv, y⟩ := I.on u z
      exact ⟨v, List.mem_append_left _ hv, y⟩
    · rw [List.mem_singleton] at z
      exact ⟨(far (tieN E t) cur.1, !cur.2), List.mem_append_right _ (by simp), by rw [z]; exact en⟩
  · rw [List.mem_append, I.fo x]
    constructor
    · rintro (⟨u, hu, y⟩ | y)
      · exact ⟨u, List.mem_append_left _ hu, y⟩
      · rw [List.mem_singleton] at y
        exact ⟨cur, List.mem_append_right _ (by simp), by rw [y]; exact e⟩
    · rintro ⟨u, hu, y⟩
      rcases List.mem_append.mp hu with z | z
      · exact .inl ⟨u, z, y⟩
      · rw [List.mem_singleton] at z
        rw [z, e] at y
        exact .inr (by simp [Option.some.inj y])
  · rcases List.mem_append.mp hv with z | z
    · exact I.sd v z
    · rw [List.mem_singleton] at z
      rw [z]
      show s (far (tieN E t) cur.1) = (s p0 != !cur.2)
      rw [side_far two a1 a2, I.sd cur (List.mem_append_right _ (by simp))]
      cases s p0 <;> cases cur.2 <;> rfl
theorem RowInv.len (I : RowInv n E s h p0 c0 c1 ini cur fo) : ini.length + 1 ≤ 2 * n := by
  have inj : ∀ a ∈ ini ++ [cur], ∀ b ∈ ini ++ [cur], 2 * a.1 + (if a.2 then 1 else 0) = 2 * b.1 + (if b.2 then 1 else 0) → a = b := fun a _ b _ e => by
    refine Prod.ext ?_ ?_
    · cases x : a.2 <;> cases y : b.2 <;> rw [x, y] at e <;> simp at e <;> omega
    · cases x : a.2 <;> cases y : b.2 <;> rw [x, y] at e <;> simp at e <;> first | rfl | omega
  have := len_le_range (n := 2 * n) (nodup_map_inj I.nd inj) fun x hx => by
    obtain ⟨v, hv, rfl⟩ := List.mem_map.mp hx
    have := I.lt v hv
    split <;> omega
  rw [List.length_map, List.length_append, List.length_singleton] at this
  exact this
theorem col_not (b : Bool) : col c0 c1 (!b) = col c1 c0 b := by cases b <;> rfl
theorem RowInv.run (w : WOk n E) (two : Two E s) (P : Proper E h) (no : NoAt E h p0 c1) : ∀ (k : Nat) (ini : List (Nat × Bool)) (cur : Nat × Bool) (fo : List Nat), RowInv n E s h p0 c0 c1 ini cur fo → 2 * n ≤ ini.length + k →
    rowEnds E h k cur.1 (col c0 c1 cur.2) (col c0 c1 (!cur.2)) ∧ ∃ ini' cur', RowInv n E s h p0 c0 c1 ini' cur' (fo ++ rowL E h k cur.1 (col c0 c1 cur.2) (col c0 c1 (!cur.2))) ∧ tieOf E h cur'.1 (col c0 c1 cur'.2) = none
  | 0, ini, cur, fo, I, hk => by
    have := I.len
    omega
  | k + 1, ini, cur, fo, I, hk => by
    unfold rowEnds rowL
    cases e : tieOf E h cur.1 (col c0 c1 cur.2) with
    | none => exact ⟨trivial, ini, cur, by simpa using I, e⟩
    | some t =>
      have I' := I.more w two P no e
      obtain ⟨a, ini', cur', b, c⟩ := RowInv.run w two P no k _ _ _ I' (by rw [List.length_append, List.length_singleton]; omega)
      refine ⟨?_, ini', cur', ?_, c⟩
      · show rowEnds E h k (far (tieN E t) cur.1) (col c0 c1 (!cur.2)) (col c0 c1 cur.2)
        have e2 : col c0 c1 (!!cur.2) = col c0 c1 cur.2 := by rw [Bool.not_not]
        rw [← e2]; exact a
      · have e2 : col c0 c1 (!!cur.2) = col c0 c1 cur.2 := by rw [Bool.not_not]
        rw [List.append_assoc] at b
        have b : RowInv n E s h p0 c0 c1 ini' cur' (fo ++ ([t] ++ rowL E h k (far (tieN E t) cur.1) (col c0 c1 (!cur.2)) (col c0 c1 (!!cur.2)))) := b
        rw [e2] at b
        exact b
/-- what a row's exchange gives -/
structure RowOk (n : Nat) (E : List Tie) (s : Nat → Bool) (h : Hue) (p0 c0 c1 : Nat) : Prop where
  ends : rowEnds E h (2 * n) p0 c0 c1
  of2 : ∀ t ∈ rowL E h (2 * n) p0 c0 c1, t < E.length ∧ (h t = some c0 ∨ h t = some c1)
  prop : Proper E (swapF c0 c1 (rowL E h (2 * n) p0 c0 c1) h)
  here : NoAt E (swapF c0 c1 (rowL E h (2 * n) p0 c0 c1) h) p0 c0
  there : ∀ q, s q ≠ s p0 → NoAt E h q c0 → NoAt E (swapF c0 c1 (rowL E h (2 * n) p0 c0 c1) h) q c0
theorem row_main (w : WOk n E) (two : Two E s) (P : Proper E h) (ne : c0 ≠ c1) (hp : p0 < n) (no : NoAt E h p0 c1) : RowOk n E s h p0 c0 c1 := by
  obtain ⟨en, ini, cur, I, stop⟩ := RowInv.run w two P no (2 * n) [] (p0, false) [] (RowInv.start (s := s) (c0 := c0) hp) (by simp)
  have I : RowInv n E s h p0 c0 c1 ini cur (rowL E h (2 * n) p0 c0 c1) := I
  have en : rowEnds E h (2 * n) p0 c0 c1 := en
  have of2 : ∀ t ∈ rowL E h (2 * n) p0 c0 c1, t < E.length ∧ (h t = some c0 ∨ h t = some c1) := fun t ht => by
    obtain ⟨u, hu, e⟩ := (I.fo t).mp ht
    obtain ⟨a1, a2, a3⟩ := tieOf_some e
    refine ⟨a1, ?_⟩
    cases x : u.2 <;> rw [x] at a3
    · exact .inl a3
    · exact .inr a3
  -- a tie of the row's other hue at a place of one of its ties is in the row
  have meet : ∀ t u p, t ∈ rowL E h (2 * n) p0 c0 c1 → u < E.length → touch (tieN E t) p = true → touch (tieN E u) p = true → (h t = some c0 ∧ h u = some c1 ∨ h t = some c1 ∧ h u = some c0) → u ∈ rowL E h (2 * n) p0 c0 c1 := by
    intro t u p ht hu htp hup hc
    obtain ⟨v, hv, e⟩ := (I.fo t).mp ht
    obtain ⟨a1, a2, a3⟩ := tieOf_some e
    have hcu : h u = some (col c0 c1 (!v.2)) := by
      cases x : v.2 <;> rw [x] at a3
      · have a3 : h t = some c0 := a3
        rcases hc with ⟨q, q'⟩ | ⟨q, q'⟩
        · exact q'
        · rw [q] at a3; exact absurd (Option.some.inj a3).symm ne
      · have a3 : h t = some c1 := a3
        rcases hc with ⟨q, q'⟩ | ⟨q, q'⟩
        · rw [q] at a3; exact absurd (Option.some.inj a3) ne
        · exact q'
    rcases touch_cases a2 htp with z | z
    · subst z
      rcases I.pre v (List.mem_append_left _ hv) with y | ⟨x, hx, y⟩
      · rw [y] at hcu hup
        exact absurd hcu (no u hu hup)
      · obtain ⟨tx, b1, b2⟩ := nxt_some y
        obtain ⟨d1, d2, d3⟩ := tieOf_some b1
        have v1 : v.1 = far (tieN E tx) x.1 := by rw [b2]
        have v2 : v.2 = !x.2 := by rw [b2]
        rw [v2, Bool.not_not] at hcu
        have : tx = u := P tx u v.1 _ d1 hu (by rw [v1]; exact far_touch d2) hup d3 hcu
        rw [← this]
        exact (I.fo tx).mpr ⟨x, hx, b1⟩
    · obtain ⟨x, hx, y⟩ := I.on v hv
      obtain ⟨tx, b1, b2⟩ := nxt_some y
      rw [e] at b1
      cases b1
      have x1 : x.1 = p := by rw [b2, z]
      have x2 : x.2 = !v.2 := by rw [b2]
      have tu : tieOf E h x.1 (col c0 c1 x.2) = some u := tieOf_of P hu (by rw [x1]; exact hup) (by rw [x2]; exact hcu)
      rcases List.mem_append.mp hx with q | q
      · exact (I.fo u).mpr ⟨x, q, tu⟩
      · rw [List.mem_singleton] at q
        rw [q, stop] at tu; cases tu
  have sw : ∀ t c, swapF c0 c1 (rowL E h (2 * n) p0 c0 c1) h t = some c → (t ∉ rowL E h (2 * n) p0 c0 c1 ∧ h t = some c) ∨ (t ∈ rowL E h (2 * n) p0 c0 c1 ∧ (h t = some c0 ∧ c = c1 ∨ h t = some c1 ∧ c = c0)) := fun t c e => by
    unfold swapF at e
    by_cases hm : t ∈ rowL E h (2 * n) p0 c0 c1
    · rw [if_pos hm] at e
      refine .inr ⟨hm, ?_⟩
      by_cases q : h t = some c0
      · rw [if_pos q] at e
        exact .inl ⟨q, (Option.some.inj e).symm⟩
      · rw [if_neg q] at e
        exact .inr ⟨(of2 t hm).2.resolve_left q, (Option.some.inj e).symm⟩
    · rw [if_neg hm] at e
      exact .inl ⟨hm, e⟩
  refine ⟨en, of2, fun t u p c ht hu htp hup e1 e2 => ?_, fun t ht htp e => ?_, fun q hq nq t ht htp e => ?_⟩
  · rcases sw t c e1 with ⟨m1, x1⟩ | ⟨m1, x1⟩ <;> rcases sw u c e2 with ⟨m2, x2⟩ | ⟨m2, x2⟩
    · exact P t u p c ht hu htp hup x1 x2
    · exfalso
      refine m1 (meet u t p m2 ht hup htp ?_)
      rcases x2 with ⟨x2, rfl⟩ | ⟨x2, rfl⟩
      · exact .inl ⟨x2, x1⟩
      · exact .inr ⟨x2, x1⟩
    · exfalso
      refine m2 (meet t u p m1 hu htp hup ?_)
      rcases x1 with ⟨x1, rfl⟩ | ⟨x1, rfl⟩
      · exact .inl ⟨x1, x2⟩
      · exact .inr ⟨x1, x2⟩
    · rcases x1 with ⟨x1, rfl⟩ | ⟨x1, rfl⟩ <;> rcases x2 with ⟨x2, y⟩ | ⟨x2, y⟩
      · exact P t u p _ ht hu htp hup x1 x2
      · exact absurd y.symm ne
      · exact absurd y ne
      · exact P t u p _ ht hu htp hup x1 x2
  · rcases sw t c0 e with ⟨m1, x1⟩ | ⟨m1, x1⟩
    · have tu : tieOf E h (p0, false).1 (col c0 c1 (p0, false).2) = some t := tieOf_of P ht htp x1
      rcases List.mem_append.mp I.st with q | q
      · exact m1 ((I.fo t).mpr ⟨_, q, tu⟩)
      · rw [List.mem_singleton] at q
        rw [q, stop] at tu; cases tu
    · rcases x1 with ⟨x1, y⟩ | ⟨x1, y⟩
      · exact ne y
      · exact no t ht htp x1
  · rcases sw t c0 e with ⟨m1, x1⟩ | ⟨m1, x1⟩
    · exact nq t ht htp x1
    · rcases x1 with ⟨x1, y⟩ | ⟨x1, y⟩
      · exact ne y
      · obtain ⟨v, hv, e⟩ := (I.fo t).mp m1
        obtain ⟨a1, a2, a3⟩ := tieOf_some e
        have v2 : v.2 = true := by
          cases x : v.2 with
          | true => rfl
          | false =>
            rw [x] at a3
            have a3 : h t = some c0 := a3
            rw [x1] at a3; exact absurd (Option.some.inj a3).symm ne
        have sv := I.sd v (List.mem_append_left _ hv)
        rw [v2] at sv
        rcases touch_cases a2 htp with z | z
        · rcases I.pre v (List.mem_append_left _ hv) with y | ⟨x, hx, y⟩
          · rw [y] at v2; cases v2
          · obtain ⟨tx, b1, b2⟩ := nxt_some y
            obtain ⟨d1, d2, d3⟩ := tieOf_some b1
            have v1 : v.1 = far (tieN E tx) x.1 := by rw [b2]
            have w2 : v.2 = !x.2 := by rw [b2]
            have x2 : x.2 = false := by rw [v2] at w2; cases q : x.2 <;> rw [q] at w2 <;> first | rfl | cases w2
            rw [x2] at d3
            exact nq tx d1 (by rw [z, v1]; exact far_touch d2) d3
        · exfalso
          apply hq
          rw [z, side_far two a1 a2, sv]
          cases s p0 <;> rfl
end
/-! steps -/
inductive HStep where
  | hue (t c : Nat)
  | row (p a b : Nat)
def stepTo (n : Nat) (E : List Tie) (h : Hue) : HStep → Hue
  | .hue t c => setf h t (some c)
  | .row p a b => swapF a b (rowL E h (2 * n) p a b) h
/-- it is let by -/
def StepOk (n : Nat) (E : List Tie) (h : Hue) : HStep → Prop
  | .hue t c => t < E.length ∧ h t = none ∧ Proper E (setf h t (some c))
  | .row p a b => p < n ∧ a ≠ b ∧ Proper E h ∧ NoAt E h p b
def runTo (n : Nat) (E : List Tie) (h : Hue) (l : List HStep) : Hue := l.foldl (stepTo n E) h
def RunOk (n : Nat) (E : List Tie) : Hue → List HStep → Prop
  | _, [] => True
  | h, st :: l => StepOk n E h st ∧ RunOk n E (stepTo n E h st) l
def stepsFor (E : List Tie) (h : Hue) (t k : Nat) : List HStep :=
  match (freeL E h (tieN E t).1 k).filter fun c => decide (c ∈ freeL E h (tieN E t).2 k) with
  | c :: _ => [.hue t c]
  | [] => [.row (tieN E t).2 ((freeL E h (tieN E t).1 k).getD 0 0) ((freeL E h (tieN E t).2 k).getD 0 0), .hue t ((freeL E h (tieN E t).1 k).getD 0 0)]
section
variable {n : Nat} {E : List Tie} {s : Nat → Bool} {h : Hue} {k t : Nat} {l l' : List HStep}
theorem runTo_append : runTo n E h (l ++ l') = runTo n E (runTo n E h l) l' := List.foldl_append
theorem RunOk.append : ∀ {l : List HStep} {h : Hue}, RunOk n E h l → RunOk n E (runTo n E h l) l' → RunOk n E h (l ++ l')
  | [], _, _, b => b
  | st :: l, _, a, b => ⟨a.1, RunOk.append a.2 b⟩
theorem RunOk.at : ∀ {l : List HStep} {h : Hue} {i : Nat} {st : HStep}, RunOk n E h l → l[i]? = some st → StepOk n E (runTo n E h (l.take i)) st
  | [], _, i, st, _, e => by simp at e
  | a :: l, h, 0, st, r, e => by
    have e : a = st := Option.some.inj e
    subst e; exact r.1
  | a :: l, h, i + 1, st, r, e => RunOk.at (l := l) (h := stepTo n E h a) r.2 (by simpa using e)
theorem runTo_take {i : Nat} {st : HStep} (e : l[i]? = some st) : runTo n E h (l.take (i + 1)) = stepTo n E (runTo n E h (l.take i)) st := by
  rw [List.take_succ, e, runTo_append]; rfl
/-- behind a step that is let by stands a hueing -/
theorem StepOk.proper (w : WOk n E) (two : Two E s) {st : HStep} (o : StepOk n E h st) : Proper E (stepTo n E h st) := by
  cases st with
  | hue t c => exact o.2.2
  | row p a b => exact (row_main w two o.2.2.1 o.2.1 o.1 o.2.2.2).prop
/-- which ties have a hue behind a step -/
def isHue : HStep → Nat → Bool
  | .hue t _, x => x == t
  | .row _ _ _, _ => false
theorem step_some (st : HStep) (x : Nat) (o : StepOk n E h st) (w : WOk n E) (two : Two E s) : (stepTo n E h st x).isSome = ((h x).isSome || isHue st x) := by
  cases st with
  | hue t c =>
    show (setf h t (some c) x).isSome = _
    by_cases e : x = t
    · subst e; rw [setf_same]; simp [isHue]
    · rw [setf_ne e]; simp [isHue, e]
  | row p a b =>
    show (swapF a b _ h x).isSome = _
    unfold swapF
    by_cases hm : x ∈ rowL E h (2 * n) p a b
    · rw [if_pos hm]
      have := ((row_main w two o.2.2.1 o.2.1 o.1 o.2.2.2).of2 x hm).2
      have hs : (h x).isSome = true := by rcases this with z | z <;> rw [z] <;> rfl
      rw [hs]; split <;> rfl
    · rw [if_neg hm]; simp [isHue]
def hued (E : List Tie) (h : Hue) : Nat := (List.range E.length).countP fun t => (h t).isSome
theorem hued_step (st : HStep) (o : StepOk n E h st) (w : WOk n E) (two : Two E s) : hued E h ≤ hued E (stepTo n E h st) ∧ hued E (stepTo n E h st) ≤ hued E h + 1 := by
  unfold hued
  have e : (List.range E.length).countP (fun t => (stepTo n E h st t).isSome) = (List.range E.length).countP fun t => (h t).isSome || isHue st t := List.countP_congr fun x _ => by rw [step_some st x o w two]
  rw [e]
  cases st with
  | hue t c =>
    have hn : h t = none := o.2.1
    rw [countP_set (f := fun x => (h x).isSome) (g := fun x => (h x).isSome || isHue (.hue t c) x) (t := t) List.nodup_range (List.mem_range.mpr o.1) (fun x hx => by simp [isHue, hx]) (by rw [hn]; rfl)]
    split <;> omega
  | row p a b =>
    have : (List.range E.length).countP (fun t => (h t).isSome || isHue (.row p a b) t) = (List.range E.length).countP fun t => (h t).isSome := List.countP_congr fun x _ => by simp [isHue]
    rw [this]; omega
/-- the steps for a tie -/
structure ForOk (n : Nat) (E : List Tie) (h : Hue) (t k : Nat) (l : List HStep) : Prop where
  run : RunOk n E h l
  prop : Proper E (runTo n E h l)
  some : ∀ x, (runTo n E h l x).isSome = ((h x).isSome || x == t)
theorem getD_mem {l : List Nat} (h : l ≠ []) : l.getD 0 0 ∈ l := by
  cases l with
  | nil => exact absurd rfl h
  | cons a l => exact List.mem_cons_self
theorem proper_set (P : Proper E h) (h1 : NoAt E h (tieN E t).1 c) (h2 : NoAt E h (tieN E t).2 c) : Proper E (setf h t (some c)) := by
  have no : ∀ p, touch (tieN E t) p = true → NoAt E h p c := fun p hp => by
    rcases touch_iff.mp hp with z | z
    · rw [← z]; exact h1
    · rw [← z]; exact h2
  intro a b p x ha hb hap hbp ea eb
  by_cases e1 : a = t
  · by_cases e2 : b = t
    · rw [e1, e2]
    · exfalso
      subst e1
      rw [setf_same] at ea
      rw [setf_ne e2] at eb
      cases ea
      exact no p hap b hb hbp eb
  · by_cases e2 : b = t
    · exfalso
      subst e2
      rw [setf_same] at eb
      rw [setf_ne e1] at ea
      cases eb
      exact no p hbp a ha hap ea
    · rw [setf_ne e1] at ea
      rw [setf_ne e2] at eb
      exact P a b p x ha hb hap hbp ea eb
theorem for_ok (w : WOk n E) (two : Two E s) (P : Proper E h) (ht : t < E.length) (hn : h t = none) (hk : ∀ p, p < n → deg E p ≤ k) : ForOk n E h t k (stepsFor E h t k) := by
  have t1 : touch (tieN E t) (tieN E t).1 = true := touch_iff.mpr (.inl rfl)
  have t2 : touch (tieN E t) (tieN E t).2 = true := touch_iff.mpr (.inr rfl)
  have l1 := touch_lt w ht t1
  have l2 := touch_lt w ht t2
  have n1 := free_some (h := h) (hk _ l1) ht t1 hn
  have n2 := free_some (h := h) (hk _ l2) ht t2 hn
  have hue1 : ∀ c, Proper E (setf h t (some c)) → ForOk n E h t k [.hue t c] := fun c hp =>
    ⟨⟨⟨ht, hn, hp⟩, trivial⟩, hp, fun x => step_some (.hue t c) x ⟨ht, hn, hp⟩ w two⟩
  unfold stepsFor
  cases e : (freeL E h (tieN E t).1 k).filter fun c => decide (c ∈ freeL E h (tieN E t).2 k) with
  | cons c r =>
    have hc : c ∈ (freeL E h (tieN E t).1 k).filter fun c => decide (c ∈ freeL E h (tieN E t).2 k) := by rw [e]; exact List.mem_cons_self
    obtain ⟨c1, c2⟩ := List.mem_filter.mp hc
    have c2 : c ∈ freeL E h (tieN E t).2 k := by simpa using c2
    exact hue1 c (proper_set P (mem_freeL.mp c1).2 (mem_freeL.mp c2).2)
  | nil =>
    have m1 := getD_mem n1
    have m2 := getD_mem n2
    show ForOk n E h t k [.row _ ((freeL E h (tieN E t).1 k).getD 0 0) ((freeL E h (tieN E t).2 k).getD 0 0), .hue t ((freeL E h (tieN E t).1 k).getD 0 0)]
    generalize (freeL E h (tieN E t).1 k).getD 0 0 = a at m1 ⊢
    generalize (freeL E h (tieN E t).2 k).getD 0 0 = b at m2 ⊢
    have ne : a ≠ b := fun z => by
      have : a ∈ (freeL E h (tieN E t).1 k).filter fun c => decide (c ∈ freeL E h (tieN E t).2 k) := List.mem_filter.mpr ⟨m1, by rw [z]; simpa using m2⟩
      rw [e] at this; simp at this
    have o1 : StepOk n E h (.row (tieN E t).2 a b) := ⟨l2, ne, P, (mem_freeL.mp m2).2⟩
    have R := row_main w two P ne l2 (mem_freeL.mp m2).2
    have hn' : stepTo n E h (.row (tieN E t).2 a b) t = none := by
      have := step_some (.row (tieN E t).2 a b) t o1 w two
      rw [hn] at this
      cases q : stepTo n E h (.row (tieN E t).2 a b) t with
      | none => rfl
      | some x => rw [q] at this; simp [isHue] at this
    have sd : s (tieN E t).1 ≠ s (tieN E t).2 := two _ (tieN_mem ht)
    have p2 : Proper E (setf (stepTo n E h (.row (tieN E t).2 a b)) t (some a)) := proper_set R.prop (R.there _ sd (mem_freeL.mp m1).2) R.here
    have o2 : StepOk n E (stepTo n E h (.row (tieN E t).2 a b)) (.hue t a) := ⟨ht, hn', p2⟩
    refine ⟨⟨o1, o2, trivial⟩, p2, fun x => ?_⟩
    show (stepTo n E (stepTo n E h (.row (tieN E t).2 a b)) (.hue t a) x).isSome = _
    rw [step_some (.hue t a) x o2 w two, step_some _ x o1 w two]
    simp [isHue]
end
end K87
/-! what all walks lean on: the text by places, calls, webs on the heap, readings that leave what is known -/
namespace K87W
open PySem PySem.Spec PyProof.Rows L2 Evl K87X
/-! ### the text -/
def topS (i : Nat) : Stmt := PySem.Challenge.pw_huedties_k87_whole_two_sides_walked.main.body.getD i (.Pass ⟨0, 0, 0, 0⟩)
/-- the names of the built-ins stand free; the text's written texts -/
structure Txt (mg : Str → Option Value) : Prop where
  len : mg "len" = none
  isinstance : mg "isinstance" = none
  int : mg "int" = none
  bool : mg "bool" = none
  list : mg "list" = none
  tuple : mg "tuple" = none
  range : mg "range" = none
  enumerate : mg "enumerate" = none
  zip : mg "zip" = none
  max : mg "max" = none
  min : mg "min" = none
  sum : mg "sum" = none
  sorted : mg "sorted" = none
  set : mg "set" = none
  any : mg "any" = none
  all : mg "all" = none
  abs : mg "abs" = none
  SIDES : ∃ t, mg "SIDES" = some (.str (Str.ofString "sides") t)
  RING : ∃ t, mg "RING" = some (.str (Str.ofString "ring") t)
  HUE : ∃ t, mg "HUE" = some (.str (Str.ofString "hue") t)
  DROP : ∃ t, mg "DROP" = some (.str (Str.ofString "drop") t)
  MOVE : ∃ t, mg "MOVE" = some (.str (Str.ofString "move") t)
/-! ### defs as they stand, and what they promise -/
structure DefAt (K : PySem.W.Frag) (mg : Str → Option Value) (x : Str) (st : Stmt) (ps : List Str) : Prop where
  ex : ∃ f fd, mg x = some (.ref f) ∧ Fun K x x st f fd ∧ Binds K fd ps []
structure At (P : Program) (w : World) (K : PySem.W.Frag) (mg : Str → Option Value) (base : Heap) (k : Nat) (x : Str) (ps : List Str) (sp : Sp) : Prop where
  ex : ∃ f fd, mg x = some (.ref f) ∧ PySem.W.keepIn K (.ref f) = true ∧ Binds K fd ps [] ∧ FnOk P w K mg base CX0 k f fd ps sp
structure MetDef (K : PySem.W.Frag) (C : Addr) (m qual : Str) (st : Stmt) (ps : List Str) : Prop where
  ex : ∃ f fd, Meth K C m f ∧ Fun K m qual st f fd ∧ Binds K fd ps []
structure MetAt (P : Program) (w : World) (K : PySem.W.Frag) (mg : Str → Option Value) (base : Heap) (C : Addr) (k : Nat) (m : Str) (ps : List Str) (sp : Sp) : Prop where
  ex : ∃ f fd, Meth K C m f ∧ Binds K fd ps [] ∧ FnOk P w K mg base CX0 k f fd ps sp
structure MkDef (K : PySem.W.Frag) (mg : Str → Option Value) (C : Addr) (x qual : Str) (st : Stmt) (ps : List Str) : Prop where
  ex : ∃ f fd, mg x = some (.ref C) ∧ Mk K C f ∧ Fun K "__init__" qual st f fd ∧ Binds K fd ps []
structure MkAt (P : Program) (w : World) (K : PySem.W.Frag) (mg : Str → Option Value) (base : Heap) (C : Addr) (k : Nat) (x : Str) (ps : List Str) (sp : Sp) : Prop where
  ex : ∃ f fd, mg x = some (.ref C) ∧ Mk K C f ∧ Binds K fd ps [] ∧ FnOk P w K mg base CX0 k f fd ps sp
section
variable {P : Program} {w : World} {K : PySem.W.Frag} {mg : Str → Option Value} {base : Heap} {x m qual : Str} {st : Stmt} {ps : List Str} {k : Nat} {sp : Sp} {C : Addr}
theorem DefAt.at (D : DefAt K mg x st ps) (h : ∀ f fd, Fun K x x st f fd → FnOk P w K mg base CX0 k f fd ps sp) : At P w K mg base k x ps sp :=
  let ⟨f, fd, a, F, b⟩ := D.ex
  ⟨f, fd, a, F.kp, b, h f fd F⟩
theorem MetDef.at (D : MetDef K C m qual st ps) (h : ∀ f fd, Fun K m qual st f fd → FnOk P w K mg base CX0 k f fd ps sp) : MetAt P w K mg base C k m ps sp :=
  let ⟨f, fd, a, F, b⟩ := D.ex
  ⟨f, fd, a, b, h f fd F⟩
theorem MkDef.at (D : MkDef K mg C x qual st ps) (h : ∀ f fd, Fun K "__init__" qual st f fd → FnOk P w K mg base CX0 k f fd ps sp) : MkAt P w K mg base C k x ps sp :=
  let ⟨f, fd, a, m, F, b⟩ := D.ex
  ⟨f, fd, a, m, b, h f fd F⟩
end
section
variable {X : Cx} {k : Nat} {x m : Str} {ps : List Str} {sp : Sp} {C : Addr} {e o : Expr} {es : List Expr} {t : TA} {ta : TE} {p pos apos : Pos}
theorem pe_at (A : At X.prog X.w X.K X.mg X.base k x ps sp) (hr : Room k X.A) (ha : PA X (e :: es) t) (hg : Gl X x := by rfl) (hdb : (x == ("__debug__" : Str)) = false := by decide)
    (he : starEach (e :: es) X.env = (false, eval e X.env) :: starEach es X.env := by rfl) (hpl : (backTo pos (starEach es X.env)).any (·.1) = false := by rfl) :
    PE X (.Call (.Name x p) (e :: es) [] pos) (tCall sp [] E0 t) :=
  let ⟨_, _, hm, hk, b, F⟩ := A.ex
  pe_call F hr hg hm hk b .nil pass0 ha hdb he hpl
theorem pe_mkat (A : MkAt X.prog X.w X.K X.mg X.base C k x ps sp) (hr : Room (k + 1) X.A) (ha : PA X (e :: es) t) (hg : Gl X x := by rfl) (hdb : (x == ("__debug__" : Str)) = false := by decide)
    (he : starEach (e :: es) X.env = (false, eval e X.env) :: starEach es X.env := by rfl) (hpl : (backTo pos (starEach es X.env)).any (·.1) = false := by rfl) :
    PE X (.Call (.Name x p) (e :: es) [] pos) (tMake C sp [] E0 t) :=
  let ⟨_, _, hm, M, b, F⟩ := A.ex
  pe_make M F hr hg hm b .nil pass0 ha hdb he hpl
theorem pe_metat {pl : Sem Bool} (c : Cls X.K C) (A : MetAt X.prog X.w X.K X.mg X.base C k m ps sp) (he : PE X o ta) (hr : Room k X.A) (ha : PA X (e :: es) t)
    (hst : starEach (e :: es) X.env = (false, eval e X.env) :: starEach es X.env := by rfl) (hpl : (backTo pos (starEach es X.env)).any (·.1) = false := by rfl)
    (ht : eval (.Call (.Attribute o m apos) (e :: es) [] pos) X.env = (do
      let ov ← eval o X.env
      standAt apos.atName
      let (f, first) ← holding [ov] (getMethod ov m pl)
      callWith pos f first (backTo pos (starEach (e :: es) X.env)) (backToKw pos (keywordEach [] X.env))) := by rfl) :
    PE X (.Call (.Attribute o m apos) (e :: es) [] pos) (tMeth C m sp [] E0 ta t) :=
  let ⟨_, _, M, b, F⟩ := A.ex
  pe_meth he c M F hr b .nil pass0 ha hst hpl ht
theorem pe_metat0 {pl : Sem Bool} (c : Cls X.K C) (A : MetAt X.prog X.w X.K X.mg X.base C k m ps sp) (he : PE X o ta) (hr : Room k X.A)
    (ht : eval (.Call (.Attribute o m apos) [] [] pos) X.env = (do
      let ov ← eval o X.env
      standAt apos.atName
      let (f, first) ← holding [ov] (getMethod ov m pl)
      callWith pos f first (backTo pos (starEach [] X.env)) (backToKw pos (keywordEach [] X.env))) := by rfl) :
    PE X (.Call (.Attribute o m apos) [] [] pos) (tMeth C m sp [] E0 ta tNil) :=
  let ⟨_, _, M, b, F⟩ := A.ex
  pe_meth0 he c M F hr b .nil pass0 ht
end
/-! ### what is left known: all that was, and a word about what comes -/
/-- the value and the heap that come: P -/
def EvP (te : TE) (σ : L2.St) (H : Hp) (P : V → Hp → Prop) : Prop := ∀ H1, Ex H H1 → ∀ Q : VK, (∀ v H2, Ex H1 H2 → P v H2 → Q v H2) → te σ H1 Q
def NewL (H : Hp) (xs : List V) : V → Hp → Prop := fun v H' => ∃ p, v = .ref p ∧ H p = none ∧ H' p = some (.lst xs)
def NewT (H : Hp) (xs : List V) : V → Hp → Prop := fun v H' => ∃ p, v = .ref p ∧ H p = none ∧ H' p = some (.tup xs)
section
variable {K : PySem.W.Frag} {σ : L2.St} {H H' : Hp} {ta tb te td ty : TE} {t : TT} {x y z v : V} {r : R2} {P : V → Hp → Prop} {i : Nat} {D : Ends} {tz : TS} {xs : List V}
theorem Ev.p (h : Ev te σ H v) : EvP te σ H fun u _ => u = v := fun H1 e Q q => h H1 e Q fun H2 e2 => q v H2 e2 rfl
theorem EvL.p (h : EvL te σ H xs) : EvP te σ H (NewL H xs) := fun H1 e Q q => h H1 e Q fun p H2 hp e2 h2 => q _ H2 e2 ⟨p, rfl, fresh_back e hp, h2⟩
theorem EvU.p (h : EvU te σ H xs) : EvP te σ H (NewT H xs) := fun H1 e Q q => h H1 e Q fun p H2 hp e2 h2 => q _ H2 e2 ⟨p, rfl, fresh_back e hp, h2⟩
theorem EvP.go (h : EvP te σ H P) {Q : VK} (q : ∀ v H2, Ex H H2 → P v H2 → Q v H2) : te σ H Q := h H (Ex.refl H) Q q
theorem Ev.go (h : Ev te σ H v) {Q : VK} (q : ∀ H2, Ex H H2 → Q v H2) : te σ H Q := h H (Ex.refl H) Q q
theorem EvP.mono (e : Ex H H') (h : EvP te σ H P) : EvP te σ H' P := fun H1 a Q q => h H1 (e.trans a) Q q
theorem EvT.go {b : Bool} (h : EvT t σ H b) {Q : Bool → Hp → Prop} (q : ∀ H2, Ex H H2 → Q b H2) : t σ H Q := h H (Ex.refl H) Q q
/-- x.f -/
theorem ev_fld {a C dx : Addr} {fs : List (Str × V)} {f : Str} (h : Ev ta σ H (.ref a)) (ho : H a = some (.ins C dx fs)) (hc : Cls K C) (hn : NoAttr K C f) (hl : fs.lookup f = some v) : Ev (tFld K ta f) σ H v := fun H1 e Q q =>
  h H1 e _ fun H2 e2 => ⟨a, C, dx, fs, v, rfl, e2 _ _ (e _ _ ho), hc, hn, hl, q H2 e2⟩
/-- d[y], y in d -/
theorem ev_dget {d : Addr} {kvs : List (Key × V)} {k : Key} (h : Ev td σ H (.ref d)) (hy : Ev ty σ H (kV k)) (hd : H d = some (.dK kvs)) (hv : valV kvs k = some v) : Ev (tDGet td ty) σ H v := fun H1 e Q q =>
  h H1 e _ fun H2 e2 => hy H2 (e.trans e2) _ fun H3 e3 => ⟨d, v, rfl, by rw [← hv]; exact DGet.k (e3 _ _ (e2 _ _ (e _ _ hd))), q H3 (e2.trans e3)⟩
theorem et_din {d : Addr} {kvs : List (Key × V)} {k : Key} (h : Ev td σ H (.ref d)) (hy : Ev ty σ H (kV k)) (hd : H d = some (.dK kvs)) : EvT (tB (tDIn ty td)) σ H (valV kvs k).isSome := fun H1 e Q q =>
  hy H1 e _ fun H2 e2 => h H2 (e.trans e2) _ fun H3 e3 => ⟨d, _, rfl, DGet.k (e3 _ _ (e2 _ _ (e _ _ hd))), _, rfl, q H3 (e2.trans e3)⟩
theorem et_dni {d : Addr} {kvs : List (Key × V)} {k : Key} (h : Ev td σ H (.ref d)) (hy : Ev ty σ H (kV k)) (hd : H d = some (.dK kvs)) : EvT (tB (tDNotIn ty td)) σ H (!(valV kvs k).isSome) := fun H1 e Q q =>
  hy H1 e _ fun H2 e2 => h H2 (e.trans e2) _ fun H3 e3 => ⟨d, _, rfl, DGet.k (e3 _ _ (e2 _ _ (e _ _ hd))), _, rfl, q H3 (e2.trans e3)⟩
theorem ev_lenT {p : Addr} (ha : Ev ta σ H (.ref p)) (h : H p = some (.tup xs)) : Ev (tCB (rLenS K) (tCons ta tNil)) σ H (.int (xs.length : Int)) := fun H1 e Q q =>
  ha H1 e _ fun H2 e2 => ⟨p, xs, rfl, .inr (st_of (e2 _ _ (e _ _ h))), q H2 e2⟩
theorem rc_sumT {a : Addr} {i j : Int} (h : H a = some (.tup [.int i, .int j])) : RC rSumT [.ref a] H (.int (i + j)) := fun H1 e Q q => ⟨a, i, j, rfl, e _ _ h, q H1 (Ex.refl H1)⟩
end
/-! ### a web on the heap -/
structure WebC (H : Hp) (a b : Addr) (ts : List Addr) (n : Nat) (E : List K87.Tie) : Prop where
  top : H a = some (.tup [.int n, .ref b])
  ties : H b = some (.tup (ts.map V.ref))
  len : ts.length = E.length
  tie : ∀ i t, ts[i]? = some t → H t = some (.tup [.int (K87.tieN E i).1, .int (K87.tieN E i).2])
structure Web (H : Hp) (a : Addr) (n : Nat) (E : List K87.Tie) : Prop where
  at_ : ∃ b ts, WebC H a b ts n E
  ok : K87.WOk n E
  ln : n ≤ 30
  le : E.length ≤ 90
theorem WebC.ex {H H' : Hp} {a b : Addr} {ts : List Addr} {n : Nat} {E : List K87.Tie} (e : Ex H H') (W : WebC H a b ts n E) : WebC H' a b ts n E :=
  ⟨e _ _ W.top, e _ _ W.ties, W.len, fun i t h => e _ _ (W.tie i t h)⟩
theorem Web.ex {H H' : Hp} {a : Addr} {n : Nat} {E : List K87.Tie} (e : Ex H H') (W : Web H a n E) : Web H' a n E :=
  let ⟨b, ts, w⟩ := W.at_
  ⟨⟨b, ts, w.ex e⟩, W.ok, W.ln, W.le⟩
section
variable {K : PySem.W.Frag} {σ : L2.St} {H H' : Hp} {ta tb te : TE} {a b : Addr} {ts : List Addr} {n t : Nat} {E : List K87.Tie}
theorem WebC.tie_at (W : WebC H a b ts n E) (ht : t < E.length) : ∃ q, ts[t]? = some q ∧ (ts.map V.ref)[t]? = some (.ref q) ∧ H q = some (.tup [.int (K87.tieN E t).1, .int (K87.tieN E t).2]) := by
  have h : t < ts.length := by rw [W.len]; exact ht
  refine ⟨ts[t], List.getElem?_eq_getElem h, ?_, W.tie t _ (List.getElem?_eq_getElem h)⟩
  rw [List.getElem?_map, List.getElem?_eq_getElem h]
  rfl
/-- web[0], web[1], web[1][t] -/
theorem ev_n (W : WebC H a b ts n E) (h : Ev ta σ H (.ref a)) : Ev (tOp (rIxT K) ta (tC (.int 0))) σ H (.int n) := ev_op h ev_c (rv_ixT (st_of W.top) rfl)
theorem ev_ts (W : WebC H a b ts n E) (h : Ev ta σ H (.ref a)) : Ev (tOp (rIxT K) ta (tC (.int 1))) σ H (.ref b) := ev_op h ev_c (rv_ixT (st_of W.top) rfl)
theorem ev_tie (W : WebC H a b ts n E) (h : Ev ta σ H (.ref a)) (hi : Ev te σ H (.int (t : Int))) {q : Addr} (hq : ts[t]? = some q) : Ev (tOp (rIxT K) (tOp (rIxT K) ta (tC (.int 1))) te) σ H (.ref q) :=
  ev_op (ev_ts W h) hi (rv_ixT (st_of W.ties) (atI_nat (by rw [List.getElem?_map, hq]; rfl)))
theorem ev_m (W : WebC H a b ts n E) (h : Ev ta σ H (.ref a)) : Ev (tCB (rLenS K) (tCons (tOp (rIxT K) ta (tC (.int 1))) tNil)) σ H (.int (E.length : Int)) := by
  have := ev_lenT (K := K) (ev_ts (K := K) W h) W.ties
  rw [List.length_map, W.len] at this
  exact this
end
end K87W
/-! readings: what the walks share -/
namespace K87W
open PySem PySem.Spec PyProof.Rows L2 Evl K87X
def natL (l : List Nat) : List V := l.map fun (t : Nat) => V.int (t : Int)
theorem natL_len (l : List Nat) : (natL l).length = l.length := by unfold natL; rw [List.length_map]
theorem natL_get {l : List Nat} {i : Nat} (h : i < l.length) : (natL l)[i]? = some (.int ((l.getD i 0 : Nat) : Int)) := by
  unfold natL
  rw [List.getElem?_map, List.getElem?_eq_getElem h, List.getD_eq_getElem?_getD, List.getElem?_eq_getElem h]
  rfl
theorem natL_of {l : List Nat} {i : Nat} {x : V} (h : (natL l)[i]? = some x) : i < l.length ∧ x = .int ((l.getD i 0 : Nat) : Int) := by
  have hi : i < l.length := by rw [← natL_len]; exact (List.getElem?_eq_some_iff.mp h).1
  rw [natL_get hi] at h
  exact ⟨hi, (Option.some.inj h).symm⟩
theorem natL_app (a b : List Nat) : natL (a ++ b) = natL a ++ natL b := List.map_append
theorem getD_mem' {l : List Nat} {i : Nat} (h : i < l.length) : l.getD i 0 ∈ l := by
  rw [List.getD_eq_getElem?_getD, List.getElem?_eq_getElem h]
  exact List.getElem_mem h
/-- a value and a heap beyond the one at hand -/
def RetP (P : V → Hp → Prop) (H : Hp) (Q : VK) : Prop := ∀ v H', Ex H H' → P v H' → Q v H'
section
variable {K : PySem.W.Frag} {σ : L2.St} {H H' : Hp} {ta tb te td ty tl : TE} {t tt : TT} {x y z v : V} {r : R2} {P : V → Hp → Prop} {i : Nat} {D : Ends} {tz tu : TS} {xs ys : List V} {g : TG} {vs : List Nat}
theorem ep_call {sp : Sp} {vs : List V} {E : XK} {ta : TA} (h : EvA ta σ H vs) (hs : ∀ H1, Ex H H1 → ∀ (Q : VK) (E : XK), (∀ v H2, Ex H1 H2 → P v H2 → Q v H2) → sp vs H1 Q E) : EvP (tCall sp [] E ta) σ H P := fun H1 e Q q =>
  h H1 e _ fun H2 e2 => by
    show sp (vs ++ []) H2 Q E
    rw [List.append_nil]
    exact hs H2 (e.trans e2) Q E fun v H3 e3 p => q v H3 (e2.trans e3) p
theorem el_is (h : EvL te σ H xs) (e : xs = ys) : EvL te σ H ys := e ▸ h
theorem eu_is (h : EvU te σ H xs) (e : xs = ys) : EvU te σ H ys := e ▸ h
theorem EvP.imp {P' : V → Hp → Prop} (h : EvP te σ H P) (k : ∀ v H1, Ex H H1 → P v H1 → P' v H1) : EvP te σ H P' := fun H1 e Q q => h H1 e Q fun v H2 e2 p => q v H2 e2 (k v H2 (e.trans e2) p)
/-- a call whose answer is P, its arguments being known -/
theorem q_asgP (h : EvP te σ H P) (k : ∀ v H1, Ex H H1 → P v H1 → g v σ H1 fun σ' H' => tz D σ' H') : tSeq (tAsg te g) tz D σ H := h.go k
theorem q_asgG (h : Ev te σ H v) (k : ∀ H1, Ex H H1 → g v σ H1 fun σ' H' => tz D σ' H') : tSeq (tAsg te g) tz D σ H := Ev.go h k
theorem s_asgG (h : Ev te σ H v) (k : ∀ H1, Ex H H1 → g v σ H1 D.nx) : tAsg te g D σ H := Ev.go h k
theorem s_retP (h : EvP te σ H P) (k : ∀ v H1, Ex H H1 → P v H1 → D.rt v H1) : tRet te D σ H := h.go k
theorem q_dropP (h : EvP te σ H P) (k : ∀ v H1, Ex H H1 → P v H1 → tz D σ H1) : tSeq (tDrop te) tz D σ H := h.go k
/-- a pair unpacked -/
theorem g_pair {p : Addr} {a b : Nat} {Q : L2.St → Hp → Prop} (h : H p = some (.tup [x, y])) (k : Q ((σ.set a (some x)).set b (some y)) H) : gTup K 2 (gCons (gName a) (gCons (gName b) gNil)) (.ref p) σ H Q :=
  ⟨p, [x, y], rfl, st_of h, rfl, x, [y], rfl, y, [], rfl, rfl, k⟩
theorem g_trip {p : Addr} {a b c : Nat} {Q : L2.St → Hp → Prop} (h : H p = some (.tup [x, y, z])) (k : Q (((σ.set a (some x)).set b (some y)).set c (some z)) H) : gTup K 3 (gCons (gName a) (gCons (gName b) (gCons (gName c) gNil))) (.ref p) σ H Q :=
  ⟨p, [x, y, z], rfl, st_of h, rfl, x, [y, z], rfl, y, [z], rfl, z, [], rfl, rfl, k⟩
theorem g_pairG {g2 : TG} {p : Addr} {a : Nat} {Q : L2.St → Hp → Prop} (h : H p = some (.tup [x, y])) (k : g2 y (σ.set a (some x)) H fun σ' H' => gNil [] σ' H' Q) : gTup K 2 (gCons (gName a) (gCons g2 gNil)) (.ref p) σ H Q :=
  ⟨p, [x, y], rfl, st_of h, rfl, x, [y], rfl, y, [], rfl, k⟩
theorem eu_tup2 (ha : Ev ta σ H x) (hb : Ev tb σ H y) : EvU (tTup (tCons ta (tCons tb tNil))) σ H [x, y] := eu_tup (ea_cons ha (ea_cons hb ea_nil)) (show 2 ≤ 100000 by decide)
theorem eu_tup3 (ha : Ev ta σ H x) (hb : Ev tb σ H y) (hc : Ev te σ H z) : EvU (tTup (tCons ta (tCons tb (tCons te tNil)))) σ H [x, y, z] := eu_tup (ea_cons ha (ea_cons hb (ea_cons hc ea_nil))) (show 3 ≤ 100000 by decide)
/-! rules told for a block, K by its name -/
theorem pg_tupK {X : Cx} {es : List Expr} {k n : Nat} {t : TGs} {pos : Pos} (hK : X.K = K) (hc : X.calm = true) (h : PGs X es t) (hn : (assignEach es X.env).length = n := by rfl) (hst : (assignEach es X.env).findIdx? (·.1) = none := by rfl) : PG X (.Tuple es k pos) (gTup K n t) := by
  subst hK
  exact pg_tup hc h hn hst
theorem pe_fldK {X : Cx} {e : Expr} {f : Str} {pos : Pos} (hK : X.K = K) (he : PE X e ta) (hb : attributeBase e f X.env (eval e X.env) = eval e X.env) : PE X (.Attribute e f pos) (tFld K ta f) := by
  subst hK
  exact pe_fld he hb
/-! comprehensions over what is enumerated -/
theorem Cw.more {f : Nat → Bool} {v : Nat → V} {Dl : Addr} {H1 H2 : Hp} (p : Cw H f v Dl i H1) (e : Ex H1 H2) : Cw H f v Dl i H2 := ⟨p.1, p.2.1.trans e, e _ _ p.2.2⟩
theorem el_lcE {ta : TA} {a : Addr} {i1 i2 : Nat} (f : Nat → Bool) (v : Nat → V) (h : EvA ta σ H [.ref a]) (hx : H a = some (.tup xs)) (hz : xs.length ≤ 40000) (hw : ∀ x y, wipe (((wipe σ vs).set i1 (some x)).set i2 (some y)) vs = wipe σ vs)
    (ht : ∀ (i : Nat) (x : V) H1, Ex H H1 → xs[i]? = some x → EvT t (((wipe σ vs).set i1 (some (.int (i : Int)))).set i2 (some x)) H1 (f i)) (he : ∀ (i : Nat) (x : V) H1, Ex H H1 → xs[i]? = some x → f i = true → Ev te (((wipe σ vs).set i1 (some (.int (i : Int)))).set i2 (some x)) H1 (v i)) :
    EvL (tLc (iEnT ta) (gTup K 2 (gCons (gName i1) (gCons (gName i2) gNil))) t te vs) σ H (given xs.length f v) := fun H0 e Q q => h H0 e _ fun H1 e1 => ⟨a, xs, rfl, (e.trans e1) _ _ hx, fun Dl hD =>
  lc_it walk_enT (Cw H1 f v Dl) ⟨hD, Ex.new hD, upd_same⟩ (fun i H' _ p => p.2.1 _ _ ((e.trans e1) _ _ hx)) (fun i x Hc H' hi p y => by
    obtain ⟨T, x1, x2, rfl, hT, rfl, e3, e4⟩ := y
    cases e3
    exact g_pair (K := K) upd_same ⟨hw _ _, cw_turn (Cw.more p (Ex.new hT)) (by omega) (ht i x2 H1 (e.trans e1) e4) (fun hf => he i x2 H1 (e.trans e1) e4 hf)⟩) (fun H' p => q Dl H' (fresh_back e1 p.1) (e1.trans p.2.1) p.2.2)⟩
theorem el_lcEL {ta : TA} {a : Addr} {i1 i2 : Nat} (f : Nat → Bool) (v : Nat → V) (h : EvA ta σ H [.ref a]) (hx : H a = some (.lst xs)) (hz : xs.length ≤ 40000) (hw : ∀ x y, wipe (((wipe σ vs).set i1 (some x)).set i2 (some y)) vs = wipe σ vs)
    (ht : ∀ (i : Nat) (x : V) H1, Ex H H1 → xs[i]? = some x → EvT t (((wipe σ vs).set i1 (some (.int (i : Int)))).set i2 (some x)) H1 (f i)) (he : ∀ (i : Nat) (x : V) H1, Ex H H1 → xs[i]? = some x → f i = true → Ev te (((wipe σ vs).set i1 (some (.int (i : Int)))).set i2 (some x)) H1 (v i)) :
    EvL (tLc (iEnum K ta) (gTup K 2 (gCons (gName i1) (gCons (gName i2) gNil))) t te vs) σ H (given xs.length f v) := fun H0 e Q q => h H0 e _ fun H1 e1 => ⟨a, xs, rfl, sq_of ((e.trans e1) _ _ hx), fun Dl hD =>
  lc_it walk_enum (Cw H1 f v Dl) ⟨hD, Ex.new hD, upd_same⟩ (fun i H' _ p => sq_of (p.2.1 _ _ ((e.trans e1) _ _ hx))) (fun i x Hc H' hi p y => by
    obtain ⟨T, x1, x2, rfl, hT, rfl, e3, e4⟩ := y
    cases e3
    exact g_pair (K := K) upd_same ⟨hw _ _, cw_turn (Cw.more p (Ex.new hT)) (by omega) (ht i x2 H1 (e.trans e1) e4) (fun hf => he i x2 H1 (e.trans e1) e4 hf)⟩) (fun H' p => q Dl H' (fresh_back e1 p.1) (e1.trans p.2.1) p.2.2)⟩
/-- over a tuple, the target any -/
theorem el_lcT {a : Addr} (f : Nat → Bool) (v : Nat → V) (h : Ev tl σ H (.ref a)) (hx : H a = some (.tup xs)) (hz : xs.length ≤ 40000)
    (hs : ∀ (i : Nat) (x : V) H1, Ex H H1 → xs[i]? = some x → ∀ (Q : L2.St → Hp → Prop), (∀ σ2, wipe σ2 vs = wipe σ vs → (∀ H2, Ex H1 H2 → EvT t σ2 H2 (f i)) → (f i = true → ∀ H2, Ex H1 H2 → Ev te σ2 H2 (v i)) → ∀ H2, Ex H1 H2 → Q σ2 H2) → g x (wipe σ vs) H1 Q) :
    EvL (tLc (iTup K tl) g t te vs) σ H (given xs.length f v) := fun H0 e Q q => h H0 e _ fun H1 e1 => ⟨a, rfl, ⟨xs, st_of ((e.trans e1) _ _ hx)⟩, fun Dl hD =>
  lc_it walk_tup (Cw H1 f v Dl) ⟨hD, Ex.new hD, upd_same⟩ (fun i H' _ p => st_of (p.2.1 _ _ ((e.trans e1) _ _ hx))) (fun i x Hc H' hi p y => by
    obtain ⟨rfl, hy⟩ := y
    refine hs i x H' ((e.trans e1).trans p.2.1) hy _ fun σ2 hw ht he H2 e2 => ⟨hw, ?_⟩
    have p2 := Cw.more p e2
    obtain ⟨p1, p3, p4⟩ := p2
    show t σ2 H2 _
    refine ht H2 e2 H2 (Ex.refl _) _ fun H3 e3 => ?_
    cases hf : f i with
    | true => exact iteT (he hf H3 (e2.trans e3) H3 (Ex.refl _) _ fun H4 e4 => ⟨given i f v, e4 Dl _ (e3 Dl _ p4), sz_lt (by have := given_len i f v; omega), p1, Ex.mut ((p3.trans e3).trans e4) p1, by rw [given_yes hf]; exact upd_same⟩)
    | false => exact iteF ⟨p1, p3.trans e3, by rw [given_no hf]; exact e3 Dl _ p4⟩) (fun H' p => q Dl H' (fresh_back e1 p.1) (e1.trans p.2.1) p.2.2)⟩
theorem iteT' {b : Bool} {A B : Prop} (h : b = true) (x : A) : if b = true then A else B := by rw [if_pos h]; exact x
/-- over what a call answers -/
theorem el_bindI (h : EvP tl σ H P) (k : ∀ v H1, Ex H H1 → P v H1 → EvL (tLc (iList K (tC v)) g t te vs) σ H1 ys) : EvL (tLc (iList K tl) g t te vs) σ H ys := fun H0 e Q q =>
  h H0 e _ fun v H1 e1 hp => k v H1 (e.trans e1) hp H1 (Ex.refl _) Q fun p H2 hp e2 h2 => q p H2 (fresh_back e1 hp) (e1.trans e2) h2
/-! loops over what is enumerated -/
theorem s_forET {ta : TA} {a : Addr} (h : EvA ta σ H [.ref a]) (hx : H a = some (.tup xs)) (Pv : Nat → L2.St → Hp → Prop) (h0 : ∀ H1, Ex H H1 → Pv 0 σ H1) (hl : ∀ i σ' H', i ≤ xs.length → Pv i σ' H' → H' a = some (.tup xs))
    (hs : ∀ i x T σ' H', xs[i]? = some x → Pv i σ' H' → H' T = none → g (.ref T) σ' (upd H' T (.tup [.int (i : Int), x])) fun σ2 H2 => tu { D with nx := Pv (i + 1), ct := Pv (i + 1), bk := D.nx } σ2 H2) (hd : ∀ σ' H', Pv xs.length σ' H' → D.nx σ' H') : tFor (iEnT ta) g tu D σ H :=
  h H (Ex.refl H) _ fun H1 e => ⟨a, xs, rfl, e _ _ hx, for_it walk_enT Pv (h0 H1 e) hl (fun i x σ' Hc H' hi p y => by
    obtain ⟨T, x1, x2, rfl, hT, rfl, e3, e4⟩ := y
    cases e3
    exact hs i x2 T σ' Hc e4 p hT) hd⟩
theorem s_forEL {ta : TA} {a : Addr} (h : EvA ta σ H [.ref a]) (hx : H a = some (.lst xs)) (Pv : Nat → L2.St → Hp → Prop) (h0 : ∀ H1, Ex H H1 → Pv 0 σ H1) (hl : ∀ i σ' H', i ≤ xs.length → Pv i σ' H' → H' a = some (.lst xs))
    (hs : ∀ i x T σ' H', xs[i]? = some x → Pv i σ' H' → H' T = none → g (.ref T) σ' (upd H' T (.tup [.int (i : Int), x])) fun σ2 H2 => tu { D with nx := Pv (i + 1), ct := Pv (i + 1), bk := D.nx } σ2 H2) (hd : ∀ σ' H', Pv xs.length σ' H' → D.nx σ' H') : tFor (iEnum K ta) g tu D σ H :=
  h H (Ex.refl H) _ fun H1 e => ⟨a, xs, rfl, sq_of (e _ _ hx), for_it walk_enum Pv (h0 H1 e) (fun i σ' H' hi p => sq_of (hl i σ' H' hi p)) (fun i x σ' Hc H' hi p y => by
    obtain ⟨T, x1, x2, rfl, hT, rfl, e3, e4⟩ := y
    cases e3
    exact hs i x2 T σ' Hc e4 p hT) hd⟩
theorem q_forET {ta : TA} {a : Addr} (h : EvA ta σ H [.ref a]) (hx : H a = some (.tup xs)) (Pv : Nat → L2.St → Hp → Prop) (h0 : ∀ H1, Ex H H1 → Pv 0 σ H1) (hl : ∀ i σ' H', i ≤ xs.length → Pv i σ' H' → H' a = some (.tup xs))
    (hs : ∀ i x T σ' H', xs[i]? = some x → Pv i σ' H' → H' T = none → g (.ref T) σ' (upd H' T (.tup [.int (i : Int), x])) fun σ2 H2 => tu { D with nx := Pv (i + 1), ct := Pv (i + 1), bk := tz D } σ2 H2) (hd : ∀ σ' H', Pv xs.length σ' H' → tz D σ' H') : tSeq (tFor (iEnT ta) g tu) tz D σ H :=
  s_forET (D := { D with nx := tz D }) h hx Pv h0 hl hs hd
theorem q_forEL {ta : TA} {a : Addr} (h : EvA ta σ H [.ref a]) (hx : H a = some (.lst xs)) (Pv : Nat → L2.St → Hp → Prop) (h0 : ∀ H1, Ex H H1 → Pv 0 σ H1) (hl : ∀ i σ' H', i ≤ xs.length → Pv i σ' H' → H' a = some (.lst xs))
    (hs : ∀ i x T σ' H', xs[i]? = some x → Pv i σ' H' → H' T = none → g (.ref T) σ' (upd H' T (.tup [.int (i : Int), x])) fun σ2 H2 => tu { D with nx := Pv (i + 1), ct := Pv (i + 1), bk := tz D } σ2 H2) (hd : ∀ σ' H', Pv xs.length σ' H' → tz D σ' H') : tSeq (tFor (iEnum K ta) g tu) tz D σ H :=
  s_forEL (D := { D with nx := tz D }) h hx Pv h0 hl hs hd
theorem q_forTn {a : Addr} {j : Nat} (h : Ev tl σ H (.ref a)) (hx : SqT K H a xs) (Pv : Nat → L2.St → Hp → Prop) (h0 : ∀ H1, Ex H H1 → Pv 0 σ H1) (hl : ∀ i σ' H', i ≤ xs.length → Pv i σ' H' → SqT K H' a xs)
    (hs : ∀ i x σ' H', xs[i]? = some x → Pv i σ' H' → tu { D with nx := Pv (i + 1), ct := Pv (i + 1), bk := tz D } (σ'.set j (some x)) H') (hd : ∀ σ' H', Pv xs.length σ' H' → tz D σ' H') : tSeq (tFor (iTup K tl) (gName j) tu) tz D σ H := q_forT h hx Pv h0 hl hs hd
theorem s_forTn {a : Addr} {j : Nat} (h : Ev tl σ H (.ref a)) (hx : SqT K H a xs) (Pv : Nat → L2.St → Hp → Prop) (h0 : ∀ H1, Ex H H1 → Pv 0 σ H1) (hl : ∀ i σ' H', i ≤ xs.length → Pv i σ' H' → SqT K H' a xs)
    (hs : ∀ i x σ' H', xs[i]? = some x → Pv i σ' H' → tu { D with nx := Pv (i + 1), ct := Pv (i + 1), bk := D.nx } (σ'.set j (some x)) H') (hd : ∀ σ' H', Pv xs.length σ' H' → D.nx σ' H') : tFor (iTup K tl) (gName j) tu D σ H := s_forT h hx Pv h0 hl hs hd
/-! lists: of a list a tuple; list(range(n)); [x] * n; sets -/
theorem eu_tupOf (h : EvL ta σ H xs) : EvU (tCB (fun xs H Q => ∃ p ys, xs = [.ref p] ∧ ((SqL K H p ys ∧ ∀ l, H l = none → Q (.ref l) (upd H l (.tup ys))) ∨ (SqT K H p ys ∧ Q (.ref p) H))) (tCons ta tNil)) σ H xs := fun H1 e Q q =>
  h H1 e _ fun p H2 hp e2 h2 => ⟨p, xs, rfl, .inl ⟨sq_of h2, fun l hl => q l _ (fresh_back e2 hl) (e2.trans (Ex.new hl)) upd_same⟩⟩
theorem el_listT {a : Addr} (ha : Ev ta σ H (.ref a)) (h : H a = some (.tup xs)) : EvL (tCB (rListS K) (tCons ta tNil)) σ H xs := fun H1 e Q q =>
  ha H1 e _ fun H2 e2 => ⟨a, xs, rfl, Or.inr (st_of (e2 _ _ (e _ _ h))), fun l hl => q l _ (fresh_back e2 hl) (e2.trans (Ex.new hl)) upd_same⟩
theorem rgV_natL (n : Nat) : rgV 0 (n : Int) = natL (List.range n) := by
  unfold rgV natL
  rw [show (((n : Int) - 0).toNat) = n by omega]
  exact List.map_congr_left fun i _ => by rw [Int.zero_add]
theorem el_rg {n : Nat} (h : Ev ta σ H (.int (n : Int))) (hn : n ≤ 100000) : EvL (tLstRg (tRg1 ta)) σ H (natL (List.range n)) := fun H1 e Q q =>
  h H1 e _ fun H2 e2 => ⟨(n : Int), rfl, RgOk.of_le (by omega) (by omega) (by omega) (by omega), fun l hl => by
    rw [rgV_natL]
    exact q l _ (fresh_back e2 hl) (e2.trans (Ex.new hl)) upd_same⟩
theorem flat_rep (n : Nat) (x : V) : (List.replicate n [x]).flatten = List.replicate n x := by
  induction n with
  | zero => rfl
  | succ n ih => rw [List.replicate_succ, List.flatten_cons, ih]; rfl
theorem el_rep {n : Nat} (ha : EvL ta σ H [x]) (hb : ∀ H1, Ex H H1 → Ev tb σ H1 (.int (n : Int))) (hn : n ≤ 100000) : EvL (tOp rRep ta tb) σ H (List.replicate n x) := fun H1 e Q q =>
  ha H1 e _ fun p H2 hp e2 h2 => hb H2 (e.trans e2) H2 (Ex.refl _) _ fun H3 e3 => ⟨p, (n : Int), [x], rfl, rfl, e3 _ _ h2, by omega, by omega, sz_of (by simp; omega), fun l hl => by
    rw [show ((n : Int).toNat) = n by omega, flat_rep]
    exact q l _ (fresh_back (e2.trans e3) hl) ((e2.trans e3).trans (Ex.new hl)) upd_same⟩
theorem el_cat {ys : List V} (ha : EvL ta σ H xs) (hb : ∀ H1, Ex H H1 → EvL tb σ H1 ys) (hz : xs.length + ys.length ≤ 100000) : EvL (tOp rCat ta tb) σ H (xs ++ ys) := fun H1 e Q q =>
  ha H1 e _ fun p H2 hp e2 h2 => hb H2 (e.trans e2) H2 (Ex.refl _) _ fun p' H3 hp' e3 h3 => ⟨p, p', xs, ys, rfl, rfl, e3 _ _ h2, h3, sz_of hz, fun l hl => q l _ (fresh_back (e2.trans e3) hl) ((e2.trans e3).trans (Ex.new hl)) upd_same⟩
theorem Ev.l {p : Addr} (h : Ev te σ H (.ref p)) (hp : H p = some (.lst xs)) : ∀ H1, Ex H H1 → ∀ Q : VK, (∀ H2, Ex H1 H2 → H2 p = some (.lst xs) → Q (.ref p) H2) → te σ H1 Q := fun H1 e Q q => h H1 e Q fun H2 e2 => q H2 e2 ((e.trans e2) _ _ hp)
theorem ev_maxD {ns : List Int} {m : Int} (h : EvL ta σ H (ns.map V.int)) (h0 : ns = [] → m = 0) (h1 : ns ≠ [] → m ∈ ns ∧ ∀ y ∈ ns, y ≤ m) : Ev (rMaxD K ta) σ H (.int m) := fun H1 e Q q =>
  h H1 e _ fun p H2 _ e2 h2 => ⟨p, ns, m, rfl, sq_of h2, h0, h1, q H2 e2⟩
end
/-! ### lists of lists -/
structure LL (H : Hp) (l : Addr) (as : List Addr) (f : Nat → List V) : Prop where
  top : H l = some (.lst (as.map V.ref))
  row : ∀ (i : Nat) (a : Addr), as[i]? = some a → H a = some (.lst (f i))
  nd : as.Nodup
  out : l ∉ as
section
variable {K : PySem.W.Frag} {σ : L2.St} {H H' : Hp} {ta tb te : TE} {l a : Addr} {as : List Addr} {f f' : Nat → List V} {i n : Nat} {xs : List V} {o : HO}
theorem LL.ex (L : LL H l as f) (e : Ex H H') : LL H' l as f := ⟨e _ _ L.top, fun i a h => e _ _ (L.row i a h), L.nd, L.out⟩
theorem LL.congr (L : LL H l as f) (h : ∀ i, i < as.length → f i = f' i) : LL H l as f' := ⟨L.top, fun i a ha => by rw [← h i (List.getElem?_eq_some_iff.mp ha).1]; exact L.row i a ha, L.nd, L.out⟩
theorem LL.at (L : LL H l as f) (h : i < as.length) : ∃ a, as[i]? = some a ∧ (as.map V.ref)[i]? = some (.ref a) ∧ H a = some (.lst (f i)) :=
  ⟨as[i], List.getElem?_eq_getElem h, by rw [List.getElem?_map, List.getElem?_eq_getElem h]; rfl, L.row i _ (List.getElem?_eq_getElem h)⟩
theorem LL.put (L : LL H l as f) (h : as[i]? = some a) : LL (upd H a (.lst xs)) l as (K87.setf f i xs) := by
  have ne : l ≠ a := fun z => L.out (by rw [z]; exact List.mem_of_getElem? h)
  refine ⟨by rw [upd_ne ne]; exact L.top, fun j b hb => ?_, L.nd, L.out⟩
  by_cases hj : j = i
  · subst hj
    rw [h] at hb
    cases hb
    rw [K87.setf_same]
    exact upd_same
  · rw [K87.setf_ne hj, upd_ne]
    · exact L.row j b hb
    · intro z
      subst z
      obtain ⟨h1, e1⟩ := List.getElem?_eq_some_iff.mp hb
      obtain ⟨h2, e2⟩ := List.getElem?_eq_some_iff.mp h
      exact hj ((List.getElem_inj L.nd).mp (e1.trans e2.symm))
/-- what isn't of it may change -/
theorem LL.mut {b : Addr} (L : LL H l as f) (h1 : b ≠ l) (h2 : b ∉ as) : LL (upd H b o) l as f :=
  ⟨by rw [upd_ne (Ne.symm h1)]; exact L.top, fun j c hc => by rw [upd_ne (fun z => h2 (by rw [← z]; exact List.mem_of_getElem? hc))]; exact L.row j c hc, L.nd, L.out⟩
theorem ev_row (L : LL H l as f) (h : Ev ta σ H (.ref l)) (hi : Ev tb σ H (.int (i : Int))) (ha : as[i]? = some a) : Ev (tOp (rIxL K) ta tb) σ H (.ref a) := ev_op h hi (rv_ixL (sq_of L.top) (atI_nat (by rw [List.getElem?_map, ha]; rfl)))
/-- [[] for place in range(n)] -/
theorem ep_lists {ta : TA} {j : Nat} {vs : List Nat} (h : EvA ta σ H [.int (n : Int)]) (hn : n ≤ 40000) (hw : ∀ x, wipe ((wipe σ vs).set j (some x)) vs = wipe σ vs) :
    EvP (tLc (iRng1 ta) (gName j) tYes (tLst tNil) vs) σ H fun v H' => ∃ l as, v = .ref l ∧ as.length = n ∧ LL H' l as (fun _ => []) ∧ H l = none ∧ ∀ a ∈ as, H a = none := fun H0 e Q q => h H0 e _ fun H1 e1 => ⟨(n : Int), rfl, by omega, by omega, fun Dl hD => by
  rw [show ((n : Int).toNat) = n by omega]
  refine lc_range (lo := 0) (n := n) (fun i H' => Ex H1 H' ∧ ∃ as, as.length = i ∧ LL H' Dl as (fun _ => []) ∧ ∀ a ∈ as, H1 a = none) ⟨Ex.new hD, [], rfl, ⟨upd_same, fun i a h => by simp at h, List.nodup_nil, fun z => by simp at z⟩, fun a h => by simp at h⟩ (fun i H' hi p => ?_) fun H' p => ?_
  · obtain ⟨p1, as, hl, L, hf⟩ := p
    refine ⟨hw _, ?_⟩
    unfold tYes
    try dsimp only
    rw [if_pos rfl]
    refine ⟨by decide, fun p hp => ⟨as.map V.ref, ?_, sz_lt (by rw [List.length_map]; omega), ?_⟩⟩
    · exact Ex.new hp _ _ L.top
    · have hpf := fresh_back p1 hp
      have nD : p ≠ Dl := fun z => by rw [z, L.top] at hp; cases hp
      have nA : p ∉ as := fun z => by
        obtain ⟨k, hk, ek⟩ := List.mem_iff_getElem.mp z
        have := L.row k p (by rw [List.getElem?_eq_getElem hk, ek])
        rw [hp] at this
        cases this
      refine ⟨Ex.mut (p1.trans (Ex.new hp)) hD, as ++ [p], by rw [List.length_append, hl]; rfl, ⟨by rw [upd_same, List.map_append]; rfl, fun k b hb => ?_, K87.nodup_snoc L.nd nA, fun z => ?_⟩, fun a ha => ?_⟩
      · by_cases hk : k < as.length
        · rw [List.getElem?_append_left hk] at hb
          have ne : b ≠ Dl := fun z => L.out (by rw [← z]; exact List.mem_of_getElem? hb)
          rw [upd_ne ne]
          exact Ex.new hp _ _ (L.row k b hb)
        · rw [List.getElem?_append_right (by omega)] at hb
          have hk0 : k - as.length = 0 := by
            by_cases h0 : k - as.length = 0
            · exact h0
            · rw [List.getElem?_eq_none (by simp; omega)] at hb
              cases hb
          rw [hk0] at hb
          cases hb
          rw [upd_ne nD]
          exact upd_same
      · rcases List.mem_append.mp z with z | z
        · exact L.out z
        · exact nD (List.mem_singleton.mp z).symm
      · rcases List.mem_append.mp ha with z | z
        · exact hf a z
        · rw [List.mem_singleton.mp z]
          exact hpf
  · obtain ⟨p1, as, hl, L, hf⟩ := p
    exact q _ H' (e1.trans p1) ⟨Dl, as, rfl, hl, L, fresh_back (e.trans e1) hD, fun a ha => fresh_back (e.trans e1) (hf a ha)⟩⟩
end
end K87W
/-! webs.py, first part -/
namespace K87W
open PySem PySem.Spec PyProof.Rows L2 Evl K87X
section
variable {P : Program} {w : World} {K : PySem.W.Frag} {mg : Str → Option Value} {base : Heap}
/-! is_number -/
abbrev s_is_number : Stmt := topS 8
abbrev n_is_number : List Str := ["thing"]
theorem sc_is_number : FnScope n_is_number ["thing"] (defScope s_is_number) := ⟨rfl, rfl, rfl, by decide +kernel, rfl, by decide +kernel, by decide +kernel⟩
def sp_is_number : Sp := fun vs H Q _ => ∃ i : Int, vs = [.int i] ∧ RetV (.bl true) H Q
theorem rc_isInt {i : Int} {H : Hp} {T : String} {r : Bool} (h : kitB "int" T = some r) : RC (rIsi K) [.int i, .ty T] H (.bl r) := fun H1 _ Q q => ⟨.int i, .ty T, .type "int", .type T, r, rfl, .ty T, .base (.int i), kit_ty h, q H1 (Ex.refl H1)⟩
theorem ok_is_number (D : DefAt K mg "is_number" s_is_number ["thing"]) (T : Txt mg) : At P w K mg base 1 "is_number" ["thing"] sp_is_number := D.at fun f fd F => by
  refine F.ok sc_is_number (fun vs H Q E h => ?_) (fun cdv A outer s H vs Q E hr h => ?_)
  · obtain ⟨i, rfl, _⟩ := h
    rfl
  · obtain ⟨i, rfl, k⟩ := h
    refine ⟨_, (pss_one (ps_ret (pe_and (pe_callB call_isi (by rfl) T.isinstance (by decide +kernel) (pa_cons (pv 0) (pa_cons (pe_bltn (v := .ty "int") (by rfl) T.int (by decide +kernel) rfl) pa_nil))) (pe_one (pe_not (pe_callB call_isi (by rfl) T.isinstance (by decide +kernel) (pa_cons (pv 0) (pa_cons (pe_bltn (v := .ty "bool") (by rfl) T.bool (by decide +kernel) rfl) pa_nil)))))))), ?_⟩
    refine s_ret (ev_andV (a := true) (b := true) (ev_cb (ea_cons (ev_var rfl) (ea_cons ev_c ea_nil)) (rc_isInt (by decide +kernel))) fun _ => ev_notV (a := false) (ev_cb (ea_cons (ev_var rfl) (ea_cons ev_c ea_nil)) (rc_isInt (by decide +kernel)))) fun H1 e => ?_
    exact k H1 e
theorem sv_is_number {H : Hp} (i : Int) : SpV sp_is_number [.int i] H (.bl true) := fun H1 _ Q q E => ⟨i, rfl, fun H2 e2 => q H2 e2⟩
theorem ev_chain {σ : L2.St} {H : Hp} {ta tb tc : TE} {x y : V} {r r' : R2} {a b : Bool} (h1 : Ev ta σ H x) (h2 : Ev tb σ H y) (hr : RV r x y H (.bl a)) (h3 : a = true → ∃ z, Ev tc σ H z ∧ RV r' y z H (.bl b)) : Ev (tChain r r' ta tb tc) σ H (.bl (a && b)) := fun H1 e Q q =>
  h1 H1 e _ fun H2 e2 => h2 H2 (e.trans e2) _ fun H3 e3 => hr H3 ((e.trans e2).trans e3) _ fun H4 e4 => ⟨a, rfl, by
    cases a with
    | false => exact iteF (q H4 ((e2.trans e3).trans e4))
    | true =>
      obtain ⟨z, g1, g2⟩ := h3 rfl
      exact iteT (g1 H4 (((e.trans e2).trans e3).trans e4) _ fun H5 e5 => g2 H5 ((((e.trans e2).trans e3).trans e4).trans e5) _ fun H6 e6 => q H6 ((((e2.trans e3).trans e4).trans e5).trans e6))⟩
/-! look_place -/
abbrev s_look_place : Stmt := topS 9
abbrev n_look_place : List Str := ["web", "place"]
theorem sc_look_place : FnScope n_look_place ["web", "place"] (defScope s_look_place) := ⟨rfl, rfl, rfl, by decide +kernel, rfl, by decide +kernel, by decide +kernel⟩
def sp_look_place : Sp := fun vs H Q _ => ∃ (a : Addr) (n p : Nat) (E : List K87.Tie), vs = [.ref a, .int p] ∧ Web H a n E ∧ p < n ∧ RetV .non H Q
theorem ok_look_place (D : DefAt K mg "look_place" s_look_place ["web", "place"]) (T : Txt mg) (A_is_number : At P w K mg base 1 "is_number" ["thing"] sp_is_number) : At P w K mg base 2 "look_place" ["web", "place"] sp_look_place := D.at fun f fd F => by
  refine F.ok sc_look_place (fun vs H Q E h => ?_) (fun cdv A outer s H vs Q E hr h => ?_)
  · obtain ⟨a, n, p, E, rfl, _⟩ := h
    rfl
  · obtain ⟨a, n, p, E, rfl, W, hp, k⟩ := h
    obtain ⟨b, ts, C⟩ := W.at_
    refine ⟨_, (pss_one (ps_if (pw_or (pt_not (pt_val (pe_at A_is_number (hr.mono (by decide)) (pa_cons (pv 1) pa_nil)))) (pw_or1 (pt_not (pt_chain op_le op_lt pe_int (pv 1) (pe_ix ix_tup (pv 0) pe_int (fun _ _ => rfl)))))).pt pss_never pss_nil)), ?_⟩
    refine s_if (b := false) (et_or (a := false) (b := false) (et_not (a := true) (et_B (ev_call (ea_cons (ev_var rfl) ea_nil) (sv_is_number _)))) fun _ => et_not (a := true) (et_test (ev_chain (a := true) (b := true) ev_c (ev_var rfl) (by rw [← decide_eq_true (show (0 : Int) ≤ (p : Int) by omega)]; exact rv_I0) fun _ => ⟨_, ev_n C (ev_var rfl), by rw [← decide_eq_true (show (p : Int) < (n : Int) by omega)]; exact rv_I0⟩))) (fun z => nomatch z) fun _ H1 e => ?_
    exact k H1 e
/-! look_tie -/
theorem beq_cast (a b : Nat) : ((a : Int) == (b : Int)) = (a == b) := by
  rw [Bool.eq_iff_iff, beq_iff_eq, beq_iff_eq]
  omega
theorem inV_pair (p a b : Nat) : inV (.int (p : Int)) [.int (a : Int), .int (b : Int)] = K87.touch (a, b) p := by
  show (((a : Int) == (p : Int)) || (((b : Int) == (p : Int)) || false)) = ((a == p) || (b == p))
  rw [Bool.or_false, beq_cast, beq_cast]
abbrev s_look_tie : Stmt := topS 10
abbrev n_look_tie : List Str := ["web", "tie"]
theorem sc_look_tie : FnScope n_look_tie ["web", "tie"] (defScope s_look_tie) := ⟨rfl, rfl, rfl, by decide +kernel, rfl, by decide +kernel, by decide +kernel⟩
def sp_look_tie : Sp := fun vs H Q _ => ∃ (a : Addr) (n t : Nat) (E : List K87.Tie), vs = [.ref a, .int t] ∧ Web H a n E ∧ t < E.length ∧ RetV .non H Q
theorem ok_look_tie (D : DefAt K mg "look_tie" s_look_tie ["web", "tie"]) (T : Txt mg) (A_is_number : At P w K mg base 1 "is_number" ["thing"] sp_is_number) : At P w K mg base 2 "look_tie" ["web", "tie"] sp_look_tie := D.at fun f fd F => by
  refine F.ok sc_look_tie (fun vs H Q E h => ?_) (fun cdv A outer s H vs Q E hr h => ?_)
  · obtain ⟨a, n, p, E, rfl, _⟩ := h
    rfl
  · obtain ⟨a, n, p, E, rfl, W, hp, k⟩ := h
    obtain ⟨b, ts, C⟩ := W.at_
    refine ⟨_, (pss_one (ps_if (pw_or (pt_not (pt_val (pe_at A_is_number (hr.mono (by decide)) (pa_cons (pv 1) pa_nil)))) (pw_or1 (pt_not (pt_chain op_le op_lt pe_int (pv 1) (pe_callB call_len_seq (by rfl) T.len PySem.boot_len (pa_cons (pe_ix ix_tup (pv 0) pe_int (fun _ _ => rfl)) pa_nil)))))).pt pss_never pss_nil)), ?_⟩
    refine s_if (b := false) (et_or (a := false) (b := false) (et_not (a := true) (et_B (ev_call (ea_cons (ev_var rfl) ea_nil) (sv_is_number _)))) fun _ => et_not (a := true) (et_test (ev_chain (a := true) (b := true) ev_c (ev_var rfl) (by rw [← decide_eq_true (show (0 : Int) ≤ (p : Int) by omega)]; exact rv_I0) fun _ => ⟨_, ev_m C (ev_var rfl), by rw [← decide_eq_true (show (p : Int) < (E.length : Int) by omega)]; exact rv_I0⟩))) (fun z => nomatch z) fun _ H1 e => ?_
    exact k H1 e
theorem sv_look_place {H : Hp} {a : Addr} {n p : Nat} {E : List K87.Tie} (W : Web H a n E) (hp : p < n) : SpV sp_look_place [.ref a, .int p] H .non := fun H1 e Q q _ => ⟨a, n, p, E, rfl, W.ex e, hp, fun H2 e2 => q H2 e2⟩
theorem sv_look_tie {H : Hp} {a : Addr} {n t : Nat} {E : List K87.Tie} (W : Web H a n E) (ht : t < E.length) : SpV sp_look_tie [.ref a, .int t] H .non := fun H1 e Q q _ => ⟨a, n, t, E, rfl, W.ex e, ht, fun H2 e2 => q H2 e2⟩
/-! ties_at -/
abbrev s_ties_at : Stmt := topS 12
abbrev n_ties_at : List Str := ["web", "place", "number", "tie"]
theorem sc_ties_at : FnScope n_ties_at ["web", "place"] (defScope s_ties_at) := ⟨rfl, rfl, rfl, by decide +kernel, rfl, by decide +kernel, by decide +kernel⟩
def sp_ties_at : Sp := fun vs H Q _ => ∃ (a : Addr) (n p : Nat) (E : List K87.Tie), vs = [.ref a, .int p] ∧ Web H a n E ∧ p < n ∧ RetL (natL (K87.tiesAt E p)) H Q
theorem sl_ties_at {H : Hp} {a : Addr} {n p : Nat} {E : List K87.Tie} (W : Web H a n E) (hp : p < n) : SpL sp_ties_at [.ref a, .int p] H (natL (K87.tiesAt E p)) := fun H1 e Q q _ => ⟨a, n, p, E, rfl, W.ex e, hp, fun p H2 h1 h2 h3 => q p H2 h1 h2 h3⟩
theorem ok_ties_at (D : DefAt K mg "ties_at" s_ties_at ["web", "place"]) (T : Txt mg) (A_look_place : At P w K mg base 2 "look_place" ["web", "place"] sp_look_place) : At P w K mg base 3 "ties_at" ["web", "place"] sp_ties_at := D.at fun f fd F => by
  refine F.ok sc_ties_at (fun vs H Q E h => ?_) (fun cdv A outer s H vs Q E hr h => ?_)
  · obtain ⟨a, n, p, E, rfl, _⟩ := h
    rfl
  · obtain ⟨a, n, p, E, rfl, W, hp, k⟩ := h
    refine ⟨_, (pss_cons (ps_expr (pe_at A_look_place (hr.mono (by decide)) (pa_cons (pv 0) (pa_cons (pv 1) pa_nil))))
      (pss_one (ps_ret (pe_lc (own := [("number", 2), ("tie", 3)]) rfl sc_ties_at.nd (pi_enumT (by rfl) T.enumerate (pa_cons (pe_ix ix_tup (pv 0) pe_int (fun _ _ => rfl)) pa_nil)) (blkOk_by (own := [("number", 2), ("tie", 3)]) (N := n_ties_at) (sc := defScope s_ties_at) (by decide +kernel)) (fun _ _ _ _ _ => (pg_tupK (K := K) (n := 2) rfl rfl (pgs_cons (pg_name (i := 2) sc_ties_at.nd rfl (Or.inl rfl)) (pgs_cons (pg_name (i := 3) sc_ties_at.nd rfl (Or.inl rfl)) pgs_nil)))) (fun _ _ _ _ _ => pts_one (pt_cmpR (r := rIn K false) op_in_seq (pv 1) (pv 3) (by rfl))) (fun _ _ _ _ _ => (pv 2)))))), ?_⟩
    refine q_drop (ev_call (ea_cons (ev_var rfl) (ea_cons (ev_var rfl) ea_nil)) (sv_look_place W hp)) fun H1 e => ?_
    have W1 := W.ex e
    obtain ⟨b, ts, C⟩ := W1.at_
    refine s_retL (xs := natL (K87.tiesAt E p)) ?_ fun q H2 hq e2 h2 => k.go e hq e2 h2
    refine el_is (el_lcE (K := K) (fun t => K87.touch (K87.tieN E t) p) (fun (t : Nat) => .int (t : Int)) (ea_cons (ev_ts (K := K) C (ev_var rfl)) ea_nil) C.ties (by rw [List.length_map, C.len]; have := W.le; omega) (fun _ _ => rfl)
      (fun i x H3 e3 hx => by
        have hi : i < E.length := by rw [← C.len, ← List.length_map (f := V.ref)]; exact (List.getElem?_eq_some_iff.mp hx).1
        obtain ⟨q, _, h2, h3⟩ := C.tie_at hi
        rw [hx] at h2
        cases h2
        refine et_test (ev_is (ev_op (ev_var rfl) (ev_var rfl) (rv_isT (st_of (e3 _ _ h3)) rfl rfl)) (congrArg V.bl (inV_pair _ _ _)))) (fun i x H3 e3 hx _ => ev_var rfl)) ?_
    rw [List.length_map, C.len]
    rfl
/-! count_at -/
abbrev s_count_at : Stmt := topS 13
abbrev n_count_at : List Str := ["web", "place"]
theorem sc_count_at : FnScope n_count_at ["web", "place"] (defScope s_count_at) := ⟨rfl, rfl, rfl, by decide +kernel, rfl, by decide +kernel, by decide +kernel⟩
def sp_count_at : Sp := fun vs H Q _ => ∃ (a : Addr) (n p : Nat) (E : List K87.Tie), vs = [.ref a, .int p] ∧ Web H a n E ∧ p < n ∧ RetV (.int (K87.deg E p : Nat)) H Q
theorem sv_count_at {H : Hp} {a : Addr} {n p : Nat} {E : List K87.Tie} (W : Web H a n E) (hp : p < n) : SpV sp_count_at [.ref a, .int p] H (.int (K87.deg E p : Nat)) := fun H1 e Q q _ => ⟨a, n, p, E, rfl, W.ex e, hp, fun H2 e2 => q H2 e2⟩
theorem ok_count_at (D : DefAt K mg "count_at" s_count_at ["web", "place"]) (T : Txt mg) (A_ties_at : At P w K mg base 3 "ties_at" ["web", "place"] sp_ties_at) : At P w K mg base 4 "count_at" ["web", "place"] sp_count_at := D.at fun f fd F => by
  refine F.ok sc_count_at (fun vs H Q E h => ?_) (fun cdv A outer s H vs Q E hr h => ?_)
  · obtain ⟨a, n, p, E, rfl, _⟩ := h
    rfl
  · obtain ⟨a, n, p, E, rfl, W, hp, k⟩ := h
    refine ⟨_, (pss_one (ps_ret (pe_callB call_len_seq (by rfl) T.len PySem.boot_len (pa_cons (pe_at A_ties_at (hr.mono (by decide)) (pa_cons (pv 0) (pa_cons (pv 1) pa_nil))) pa_nil)))), ?_⟩
    refine s_ret (ev_is (ev_lenN (el_call (ea_cons (ev_var rfl) (ea_cons (ev_var rfl) ea_nil)) (sl_ties_at W hp))) (by rw [natL_len]; rfl)) fun H1 e => k H1 e
/-! far_end -/
abbrev s_far_end : Stmt := topS 15
abbrev n_far_end : List Str := ["web", "tie", "place", "one", "other"]
theorem sc_far_end : FnScope n_far_end ["web", "tie", "place"] (defScope s_far_end) := ⟨rfl, rfl, rfl, by decide +kernel, rfl, by decide +kernel, by decide +kernel⟩
def sp_far_end : Sp := fun vs H Q _ => ∃ (a : Addr) (n t p : Nat) (E : List K87.Tie), vs = [.ref a, .int t, .int p] ∧ Web H a n E ∧ t < E.length ∧ K87.touch (K87.tieN E t) p = true ∧ RetV (.int (K87.far (K87.tieN E t) p : Nat)) H Q
theorem sv_far_end {H : Hp} {a : Addr} {n t p : Nat} {E : List K87.Tie} (W : Web H a n E) (ht : t < E.length) (h : K87.touch (K87.tieN E t) p = true) : SpV sp_far_end [.ref a, .int t, .int p] H (.int (K87.far (K87.tieN E t) p : Nat)) := fun H1 e Q q _ => ⟨a, n, t, p, E, rfl, W.ex e, ht, h, fun H2 e2 => q H2 e2⟩
theorem dec_cast (a b : Nat) : decide (V.int (a : Int) = V.int (b : Int)) = decide (a = b) := decide_eq_decide.mpr ⟨fun z => by cases z; rfl, fun z => by rw [z]⟩
theorem ok_far_end (D : DefAt K mg "far_end" s_far_end ["web", "tie", "place"]) (T : Txt mg) (A_is_number : At P w K mg base 1 "is_number" ["thing"] sp_is_number) (A_look_tie : At P w K mg base 2 "look_tie" ["web", "tie"] sp_look_tie) : At P w K mg base 3 "far_end" ["web", "tie", "place"] sp_far_end := D.at fun f fd F => by
  refine F.ok sc_far_end (fun vs H Q E h => ?_) (fun cdv A outer s H vs Q E hr h => ?_)
  · obtain ⟨a, n, t, p, E, rfl, _⟩ := h
    rfl
  · obtain ⟨a, n, t, p, E, rfl, W, ht, htp, k⟩ := h
    refine ⟨_, (pss_cons (ps_expr (pe_at A_look_tie (hr.mono (by decide)) (pa_cons (pv 0) (pa_cons (pv 1) pa_nil))))
      (pss_cons (ps_asg (pe_ix ix_tup (pe_ix ix_tup (pv 0) pe_int (fun _ _ => rfl)) (pv 1) (fun _ _ => rfl)) (pg_tup rfl (pgs_cons (pg_name (i := 3) sc_far_end.nd rfl (Or.inl rfl)) (pgs_cons (pg_name (i := 4) sc_far_end.nd rfl (Or.inl rfl)) pgs_nil))))
      (pss_cons (ps_if (pw_or (pt_cmpR op_notIn_seq (pv 2) (pe_tup (pa_cons (pv 3) (pa_cons (pv 4) pa_nil))) (by rfl)) (pw_or1 (pt_not (pt_val (pe_at A_is_number (hr.mono (by decide)) (pa_cons (pv 2) pa_nil)))))).pt pss_never pss_nil)
      (pss_one (ps_ret (pe_ifExp (pt_cmpR op_eq (pv 2) (pv 3) (nomark _)) (pv 4) (pv 3))))))), ?_⟩
    refine q_drop (ev_call (ea_cons (ev_var rfl) (ea_cons (ev_var rfl) ea_nil)) (sv_look_tie W ht)) fun H1 e => ?_
    have W1 := W.ex e
    obtain ⟨b, ts, C⟩ := W1.at_
    obtain ⟨q, h1, h2, h3⟩ := C.tie_at ht
    refine q_asgG (ev_tie C (ev_var rfl) (ev_var rfl) h1) fun H2 e2 => g_pair (e2 _ _ h3) ?_
    refine q_when (b := false) (et_or (a := false) (b := false) (et_test (ev_is (ev_niU (ev_var rfl) (eu_tup2 (ev_var rfl) (ev_var rfl)) rfl rfl) (by rw [inV_pair]; exact congrArg (fun c => V.bl (!c)) htp))) fun _ => et_not (a := true) (et_B (ev_call (ea_cons (ev_var rfl) ea_nil) (sv_is_number _)))) (fun z => nomatch z) fun _ H3 e3 => ?_
    refine s_ret (ev_if (b := decide (p = (K87.tieN E t).1)) (et_test (ev_is (ev_op (ev_var rfl) (ev_var rfl) (rv_eq rfl)) (congrArg V.bl (dec_cast _ _)))) (fun hb => ev_is (ev_var rfl) (by unfold K87.far; rw [if_pos (of_decide_eq_true hb)])) fun hb => ev_is (ev_var rfl) (by unfold K87.far; rw [if_neg (of_decide_eq_false hb)])) fun H4 e4 => k H4 (((e.trans e2).trans e3).trans e4)
/-! only -/
abbrev s_only : Stmt := topS 16
abbrev n_only : List Str := ["web", "ties", "tie"]
theorem sc_only : FnScope n_only ["web", "ties"] (defScope s_only) := ⟨rfl, rfl, rfl, by decide +kernel, rfl, by decide +kernel, by decide +kernel⟩
def sp_only : Sp := fun vs H Q _ => ∃ (a l : Addr) (n : Nat) (E : List K87.Tie) (ts : List Nat), vs = [.ref a, .ref l] ∧ Web H a n E ∧ H l = some (.lst (natL ts)) ∧ (∀ t ∈ ts, t < E.length) ∧ ts.length ≤ 90 ∧ RetP (fun v H' => ∃ a', v = .ref a' ∧ Web H' a' n (K87.sub E ts)) H Q
theorem sp_only_of {H : Hp} {a l : Addr} {n : Nat} {E : List K87.Tie} {ts : List Nat} (W : Web H a n E) (hl : H l = some (.lst (natL ts))) (hlt : ∀ t ∈ ts, t < E.length) (hz : ts.length ≤ 90) : ∀ H1, Ex H H1 → ∀ (Q : VK) (E' : XK), (∀ v H2, Ex H1 H2 → (∃ a', v = .ref a' ∧ Web H2 a' n (K87.sub E ts)) → Q v H2) → sp_only [.ref a, .ref l] H1 Q E' :=
  fun H1 e Q _ q => ⟨a, l, n, E, ts, rfl, W.ex e, e _ _ hl, hlt, hz, q⟩
theorem given_all (n : Nat) (v : Nat → V) : given n (fun _ => true) v = (List.range n).map v := by
  unfold given
  rw [List.filter_eq_self.mpr fun _ _ => rfl]
theorem ok_only (D : DefAt K mg "only" s_only ["web", "ties"]) (T : Txt mg) (A_look_tie : At P w K mg base 2 "look_tie" ["web", "tie"] sp_look_tie) : At P w K mg base 3 "only" ["web", "ties"] sp_only := D.at fun f fd F => by
  refine F.ok sc_only (fun vs H Q E h => ?_) (fun cdv A outer s H vs Q E hr h => ?_)
  · obtain ⟨a, l, n, E, ts, rfl, _⟩ := h
    rfl
  · obtain ⟨a, l, n, E, ts, rfl, W, hl, hlt, hz, k⟩ := h
    refine ⟨_, (pss_cons (ps_for PassesOwn.never rfl (pi_list (pv 1)) (pg_name (i := 2) sc_only.nd rfl (Or.inl rfl)) (pss_one (ps_expr (pe_at A_look_tie (hr.mono (by decide)) (pa_cons (pv 0) (pa_cons (pv 2) pa_nil))))))
      (pss_one (ps_ret (pe_tup (pa_cons (pe_ix ix_tup (pv 0) pe_int (fun _ _ => rfl)) (pa_cons (pe_callTy call_tuple_of (by rfl) T.tuple (by decide +kernel) (pa_cons (pe_lc (own := [("tie", 2)]) rfl sc_only.nd (pi_list (pv 1)) (blkOk_by (own := [("tie", 2)]) (N := n_only) (sc := defScope s_only) (by decide +kernel)) (fun _ _ _ _ _ => (pg_name (i := 2) sc_only.nd rfl (Or.inl rfl))) (fun _ _ _ _ _ => pts_nil) (fun _ _ _ _ _ => (pe_ix (r := rIxT K) ix_tup (pe_ix (r := rIxT K) ix_tup (pv 0) pe_int (fun _ _ => rfl)) (pv 2) (fun _ _ => rfl)))) pa_nil)) pa_nil)))))), ?_⟩
    refine q_forLn (ev_var rfl) (sq_of hl) (fun i σ' H' => Ex H H' ∧ σ'[0]? = some (some (.ref a)) ∧ σ'[1]? = some (some (.ref l)) ∧ σ'.length = 3) (fun H1 e => ⟨e, rfl, rfl, rfl⟩) (fun i σ' H' _ p => sq_of (p.1 _ _ hl)) (fun i x σ' H' hx p => ?_) fun σ' H' p => ?_
    · obtain ⟨e, h0, h1, h2⟩ := p
      obtain ⟨hi, rfl⟩ := natL_of hx
      refine s_drop (ev_call (ea_cons (ev_var (by rw [List.getElem?_set_ne (by decide)]; exact h0)) (ea_cons (ev_var (List.getElem?_set_self (by omega))) ea_nil)) (sv_look_tie (W.ex e) (hlt _ (getD_mem' hi)))) fun H1 e1 => ⟨e.trans e1, by rw [List.getElem?_set_ne (by decide)]; exact h0, by rw [List.getElem?_set_ne (by decide)]; exact h1, by rw [List.length_set]; exact h2⟩
    · obtain ⟨e, h0, h1, h2⟩ := p
      have W1 := W.ex e
      obtain ⟨b, as, C⟩ := W1.at_
      have hg : ∀ i, i < ts.length → ∃ q, as[ts.getD i 0]? = some q ∧ H' q = some (.tup [.int (K87.tieN E (ts.getD i 0)).1, .int (K87.tieN E (ts.getD i 0)).2]) := fun i hi => by
        obtain ⟨q, z1, _, z3⟩ := C.tie_at (hlt _ (getD_mem' hi))
        exact ⟨q, z1, z3⟩
      refine s_retP (P := fun v H2 => ∃ a', v = .ref a' ∧ Web H2 a' n (K87.sub E ts)) ?_ fun v H2 e2 hv => k v H2 (e.trans e2) hv
      have hT : EvU _ σ' H' ((ts.map fun t => (as.getD t 0)).map V.ref) := eu_tupOf (K := K) (by
        have := el_lcL (K := K) (σ := σ') (H := H') (t := tYes) (te := tOp (rIxT K) (tOp (rIxT K) (tVar 0) (tC (.int 1))) (tVar 2)) (vs := [2]) (j := 2) (fun _ => true) (fun i => .ref (as.getD (ts.getD i 0) 0)) (ev_var h1) (sq_of (e _ _ hl)) (by rw [natL_len]; omega) (fun x => by
          show ((σ'.set 2 none).set 2 (some x)).set 2 none = σ'.set 2 none
          rw [List.set_set, List.set_set]) (fun i x H3 e3 hx => fun H4 _ _ q => q H4 (Ex.refl _)) (fun i x H3 e3 hx _ => by
          obtain ⟨hi, rfl⟩ := natL_of hx
          obtain ⟨q, z1, z3⟩ := hg i hi
          have z4 : as.getD (ts.getD i 0) 0 = q := by rw [List.getD_eq_getElem?_getD, z1]; rfl
          rw [z4]
          refine ev_tie (C.ex e3) (ev_var ?_) (ev_var ?_) z1
          · show ((σ'.set 2 none).set 2 _)[0]? = _
            rw [List.getElem?_set_ne (by decide), List.getElem?_set_ne (by decide)]; exact h0
          · show ((σ'.set 2 none).set 2 _)[2]? = _
            exact List.getElem?_set_self (by rw [List.length_set]; omega))
        rw [given_all, natL_len] at this
        have z : (ts.map fun t => (as.getD t 0)).map V.ref = (List.range ts.length).map fun i => V.ref (as.getD (ts.getD i 0) 0) := by
          apply List.ext_getElem?
          intro i
          by_cases hi : i < ts.length
          · simp [hi]
          · simp [hi]
        rw [z]
        exact this)
      intro H1 e1 Q' q
      refine ev_n (K := K) C (ev_var h0) H1 e1 _ fun H2 e2 => hT H2 (e1.trans e2) _ fun b' H3 hb e3 h3 => ?_
      refine ⟨show 2 ≤ sizeLine by decide, fun a' ha' => q _ _ ((e2.trans e3).trans (Ex.new ha')) ⟨a', rfl, ⟨b', ts.map fun t => (as.getD t 0), upd_same, Ex.new ha' _ _ h3, by rw [List.length_map, K87.sub_length], fun i t hi => ?_⟩, K87.sub_WOk W.ok hlt, W.ln, by rw [K87.sub_length]; exact hz⟩⟩
      have hil : i < ts.length := by rw [← List.length_map (as := ts) (f := fun t => as.getD t 0)]; exact (List.getElem?_eq_some_iff.mp hi).1
      obtain ⟨q2, z1, z3⟩ := hg i hil
      have z4 : t = q2 := by
        rw [List.getElem?_map, List.getElem?_eq_getElem hil] at hi
        have z5 : as.getD ts[i] 0 = t := Option.some.inj hi
        have z6 : ts.getD i 0 = ts[i] := by rw [List.getD_eq_getElem?_getD, List.getElem?_eq_getElem hil]; rfl
        rw [z6] at z1
        rw [← z5, List.getD_eq_getElem?_getD, z1]
        rfl
      rw [K87.sub_tie hil, z4]
      exact Ex.new ha' _ _ (e3 _ _ (e2 _ _ (e1 _ _ z3)))
/-! ties_by_place -/
def upTo (E : List K87.Tie) (k p : Nat) : List Nat := (List.range k).filter fun t => K87.touch (K87.tieN E t) p
theorem upTo_succ (E : List K87.Tie) (k p : Nat) : upTo E (k + 1) p = upTo E k p ++ if K87.touch (K87.tieN E k) p = true then [k] else [] := by
  unfold upTo
  rw [List.range_succ, List.filter_append]
  congr 1
  rw [List.filter_cons]
  rfl
theorem upTo_len (E : List K87.Tie) (k p : Nat) : (upTo E k p).length ≤ k := by
  have := List.length_filter_le (fun t => K87.touch (K87.tieN E t) p) (List.range k)
  rw [List.length_range] at this
  exact this
/-- one more at each of two places -/
theorem two_put {f : Nat → List V} {x : V} {i a b : Nat} {g : Nat → List V} (ne : a ≠ b) (h1 : g a = f a ++ [x]) (h2 : g b = f b ++ [x]) (h3 : ∀ p, p ≠ a → p ≠ b → g p = f p) (p : Nat) :
    K87.setf (K87.setf f a (f a ++ [x])) b (K87.setf f a (f a ++ [x]) b ++ [x]) p = g p := by
  unfold K87.setf
  by_cases hb : p = b
  · subst hb
    rw [if_pos rfl, if_neg (Ne.symm ne), h2]
  · rw [if_neg hb]
    by_cases ha : p = a
    · subst ha
      rw [if_pos rfl, h1]
    · rw [if_neg ha, h3 p ha hb]
def ByP (n : Nat) (E : List K87.Tie) : V → Hp → Prop := fun v H' => ∃ l as, v = .ref l ∧ LL H' l as (fun p => natL (K87.tiesAt E p)) ∧ as.length = n
abbrev s_ties_by_place : Stmt := topS 11
abbrev n_ties_by_place : List Str := ["web", "found", "number", "one", "other", "place"]
theorem sc_ties_by_place : FnScope n_ties_by_place ["web"] (defScope s_ties_by_place) := ⟨rfl, rfl, rfl, by decide +kernel, rfl, by decide +kernel, by decide +kernel⟩
def sp_ties_by_place : Sp := fun vs H Q _ => ∃ (a : Addr) (n : Nat) (E : List K87.Tie), vs = [.ref a] ∧ Web H a n E ∧ RetP (ByP n E) H Q
theorem sp_ties_by_place_of {H : Hp} {a : Addr} {n : Nat} {E : List K87.Tie} (W : Web H a n E) : ∀ H1, Ex H H1 → ∀ (Q : VK) (E' : XK), (∀ v H2, Ex H1 H2 → ByP n E v H2 → Q v H2) → sp_ties_by_place [.ref a] H1 Q E' := fun H1 e Q _ q => ⟨a, n, E, rfl, W.ex e, q⟩
theorem ok_ties_by_place (D : DefAt K mg "ties_by_place" s_ties_by_place ["web"]) (T : Txt mg) : At P w K mg base 1 "ties_by_place" ["web"] sp_ties_by_place := D.at fun f fd F => by
  refine F.ok sc_ties_by_place (fun vs H Q E h => ?_) (fun cdv A outer s H vs Q E hr h => ?_)
  · obtain ⟨a, n, E, rfl, _⟩ := h
    rfl
  · obtain ⟨a, n, E, rfl, W, k⟩ := h
    obtain ⟨b, ts, C⟩ := W.at_
    refine ⟨_, (pss_cons (ps_setLc (i := 1) (own := [("place", 5)]) rfl sc_ties_by_place.nd rfl rfl (sw_true rfl rfl rfl (by decide +kernel)) (pi_range1 rfl T.range (pa_cons (pe_ix ix_tup (pv 0) pe_int (fun _ _ => rfl)) pa_nil)) (blkOk_by (own := [("place", 5)]) (N := n_ties_by_place) (sc := defScope s_ties_by_place) (by decide +kernel)) (fun _ _ _ _ _ => (pg_name (i := 5) sc_ties_by_place.nd rfl (Or.inl rfl))) (fun _ _ _ _ _ => pts_nil) (fun _ _ _ _ _ => (pe_lst pa_nil)))
      (pss_cons (ps_for PassesOwn.never rfl (pi_enumT (by rfl) T.enumerate (pa_cons (pe_ix ix_tup (pv 0) pe_int (fun _ _ => rfl)) pa_nil)) (pg_tup rfl (pgs_cons (pg_name (i := 2) sc_ties_by_place.nd rfl (Or.inl rfl)) (pgs_cons (pg_tup rfl (pgs_cons (pg_name (i := 3) sc_ties_by_place.nd rfl (Or.inl rfl)) (pgs_cons (pg_name (i := 4) sc_ties_by_place.nd rfl (Or.inl rfl)) pgs_nil))) pgs_nil))) (pss_cons (ps_expr (pe_bm PySem.F.plainAttrs_list PySem.F.slot_list_append PySem.F.type_list_append mt_append (pe_ix ix_list (pv 1) (pv 3) (fun _ _ => rfl)) (pa_cons (pv 2) pa_nil)))
      (pss_one (ps_expr (pe_bm PySem.F.plainAttrs_list PySem.F.slot_list_append PySem.F.type_list_append mt_append (pe_ix ix_list (pv 1) (pv 4) (fun _ _ => rfl)) (pa_cons (pv 2) pa_nil))))))
      (pss_one (ps_ret (pv 1))))), ?_⟩
    refine q_asgP (ep_lists (ea_cons (ev_n C (ev_var rfl)) ea_nil) (by have := W.ln; omega) (fun _ => rfl)) fun v H1 e hv => ?_
    obtain ⟨l, as, rfl, hlen, L, hfl, hfa⟩ := hv
    refine q_forET (ea_cons (ev_ts (C.ex e) (ev_var rfl)) ea_nil) (e _ _ C.ties) (fun i σ' H' => Ex H H' ∧ LL H' l as (fun p => natL (upTo E i p)) ∧ ∃ x2 x3 x4, σ' = [some (.ref a), some (.ref l), x2, x3, x4, none]) (fun H2 e2 => ⟨e.trans e2, L.ex e2, _, _, _, rfl⟩) (fun i σ' H' _ p => p.1 _ _ C.ties) (fun i x T σ' H' hx p hT => ?_) fun σ' H' p => ?_
    · obtain ⟨p1, L1, x2, x3, x4, rfl⟩ := p
      have hi : i < E.length := by rw [← C.len, ← List.length_map (f := V.ref)]; exact (List.getElem?_eq_some_iff.mp hx).1
      obtain ⟨q, z1, z2, z3⟩ := C.tie_at hi
      rw [hx] at z2
      cases z2
      have e1 := Ex.new (o := .tup [.int (i : Int), .ref q]) hT
      refine g_pairG upd_same (g_pair (e1 _ _ (p1 _ _ z3)) ⟨rfl, ?_⟩)
      have ho := W.ok _ (K87.tieN_mem hi)
      obtain ⟨a1, y1, _, y3⟩ := L1.at (i := (K87.tieN E i).1) (by omega)
      have L2' := L1.ex e1
      have n1 := natL_len (upTo E i (K87.tieN E i).1)
      have n2 := natL_len (upTo E i (K87.tieN E i).2)
      have u1 := upTo_len E i (K87.tieN E i).1
      have u2 := upTo_len E i (K87.tieN E i).2
      have hle := W.le
      refine q_app (L2'.row _ _ y1) (ev_row L2' (ev_var rfl) (ev_var rfl) y1) (ev_var rfl) (by omega) fun H3 e3 => ?_
      have L3 := (L2'.ex e3).put y1 (xs := natL (upTo E i (K87.tieN E i).1) ++ [.int (i : Int)])
      obtain ⟨a2, w1, _, w3⟩ := L3.at (i := (K87.tieN E i).2) (by omega)
      refine s_app (L3.row _ _ w1) (ev_row L3 (ev_var rfl) (ev_var rfl) w1) (ev_var rfl) (by rw [K87.setf_ne (by omega)]; omega) fun H4 e4 => ?_
      have L4 := (L3.ex e4).put w1 (xs := K87.setf (fun p => natL (upTo E i p)) (K87.tieN E i).1 (natL (upTo E i (K87.tieN E i).1) ++ [.int (i : Int)]) (K87.tieN E i).2 ++ [.int (i : Int)])
      have t1 : K87.touch (K87.tieN E i) (K87.tieN E i).1 = true := K87.touch_iff.mpr (.inl rfl)
      have t2 : K87.touch (K87.tieN E i) (K87.tieN E i).2 = true := K87.touch_iff.mpr (.inr rfl)
      refine ⟨Ex.mut (Ex.trans (Ex.mut ((p1.trans e1).trans e3) (hfa _ (List.mem_of_getElem? y1))) e4) (hfa _ (List.mem_of_getElem? w1)), L4.congr fun p hp => two_put (f := fun p => natL (upTo E i p)) (g := fun p => natL (upTo E (i + 1) p)) (i := 0) (by omega) (by
        show natL (upTo E (i + 1) _) = _
        rw [upTo_succ, if_pos t1, natL_app]; rfl) (by
        show natL (upTo E (i + 1) _) = _
        rw [upTo_succ, if_pos t2, natL_app]; rfl) (fun p h1 h2 => by
        show natL (upTo E (i + 1) _) = _
        rw [upTo_succ, if_neg (fun z => (K87.touch_iff.mp z).elim (fun z => h1 z.symm) (fun z => h2 z.symm)), List.append_nil]) p, _, _, _, rfl⟩
    · obtain ⟨p1, L1, x2, x3, x4, rfl⟩ := p
      refine s_ret (ev_var rfl) fun H2 e2 => k _ H2 (p1.trans e2) ⟨l, as, rfl, (L1.ex e2).congr fun p _ => ?_, hlen⟩
      rw [List.length_map, C.len]
      rfl
/-! most_at -/
abbrev s_most_at : Stmt := topS 14
abbrev n_most_at : List Str := ["web", "ties"]
theorem sc_most_at : FnScope n_most_at ["web"] (defScope s_most_at) := ⟨rfl, rfl, rfl, by decide +kernel, rfl, by decide +kernel, by decide +kernel⟩
def sp_most_at : Sp := fun vs H Q _ => ∃ (a : Addr) (n : Nat) (E : List K87.Tie), vs = [.ref a] ∧ Web H a n E ∧ RetV (.int (K87.mostAt n E : Nat)) H Q
theorem sv_most_at {H : Hp} {a : Addr} {n : Nat} {E : List K87.Tie} (W : Web H a n E) : SpV sp_most_at [.ref a] H (.int (K87.mostAt n E : Nat)) := fun H1 e Q q _ => ⟨a, n, E, rfl, W.ex e, fun H2 e2 => q H2 e2⟩
theorem ok_most_at (D : DefAt K mg "most_at" s_most_at ["web"]) (T : Txt mg) (A_ties_by_place : At P w K mg base 1 "ties_by_place" ["web"] sp_ties_by_place) : At P w K mg base 2 "most_at" ["web"] sp_most_at := D.at fun f fd F => by
  refine F.ok sc_most_at (fun vs H Q E h => ?_) (fun cdv A outer s H vs Q E hr h => ?_)
  · obtain ⟨a, n, E, rfl, _⟩ := h
    rfl
  · obtain ⟨a, n, E, rfl, W, k⟩ := h
    refine ⟨_, (pss_one (ps_ret (pe_maxD hr.units rfl (by rfl) T.max (pe_lc (own := [("ties", 1)]) rfl sc_most_at.nd (pi_list (pe_at A_ties_by_place (hr.mono (by decide)) (pa_cons (pv 0) pa_nil))) (blkOk_by (own := [("ties", 1)]) (N := n_most_at) (sc := defScope s_most_at) (by decide +kernel)) (fun _ _ _ _ _ => (pg_name (i := 1) sc_most_at.nd rfl (Or.inl rfl))) (fun _ _ _ _ _ => pts_nil) (fun _ _ _ _ _ => (pe_callB (r := rLenS K) call_len_seq (by rfl) T.len PySem.boot_len (pa_cons (pv 1) pa_nil))))))), ?_⟩
    refine s_ret (ev_maxD (ns := (List.range n).map fun p => ((K87.deg E p : Nat) : Int)) (m := (K87.mostAt n E : Nat)) (el_bindI (ep_call (P := ByP n E) (ea_cons (ev_var rfl) ea_nil) (sp_ties_by_place_of W)) fun v H1 e hv => ?_) (fun h0 => ?_) (fun h0 => ?_)) fun H1 e => k H1 e
    · obtain ⟨l, as, rfl, L, hlen⟩ := hv
      refine el_is (el_lcL (fun _ => true) (fun i => .int (K87.deg E i : Nat)) ev_c (sq_of L.top) (by rw [List.length_map, hlen]; have := W.ln; omega) (fun x => rfl) (fun i x H3 e3 hx => fun H4 _ _ q => q H4 (Ex.refl _)) (fun i x H3 e3 hx _ => ?_)) ?_
      · have hi : i < as.length := by rw [← List.length_map (f := V.ref)]; exact (List.getElem?_eq_some_iff.mp hx).1
        obtain ⟨a1, y1, y2, y3⟩ := L.at hi
        rw [hx] at y2
        cases y2
        exact ev_is (ev_len (ev_var rfl) (sq_of (e3 _ _ y3))) (by rw [natL_len]; rfl)
      · rw [given_all, List.length_map, hlen, List.map_map]
        rfl
    · have hn : n = 0 := by
        have := congrArg List.length h0
        rw [List.length_map, List.length_range] at this
        exact this
      subst hn
      rfl
    · have hn : 0 < n := by
        cases n with
        | zero => exact absurd rfl h0
        | succ n => omega
      obtain ⟨p, h1, h2⟩ := K87.most_at_some (E := E) hn
      refine ⟨List.mem_map.mpr ⟨p, List.mem_range.mpr h1, by rw [h2]⟩, fun y hy => ?_⟩
      obtain ⟨p2, h3, rfl⟩ := List.mem_map.mp hy
      have := K87.deg_le_most (E := E) (List.mem_range.mp h3)
      omega
end
end K87W
/-! fields, dicts, lists that change -/
namespace K87W
open PySem PySem.Spec PyProof.Rows L2 Evl K87X
/-- all that was known stays, but for S -/
def FrS (S : List Addr) (H H' : Hp) : Prop := ∀ b o, b ∉ S → H b = some o → H' b = some o
section
variable {S : List Addr} {H H1 H2 : Hp} {b : Addr} {o : HO}
theorem FrS.refl : FrS S H H := fun _ _ _ h => h
theorem FrS.of (e : Ex H H1) : FrS S H H1 := fun b o _ h => e b o h
theorem FrS.ex (f : FrS S H H1) (e : Ex H1 H2) : FrS S H H2 := fun b o hb h => e b o (f b o hb h)
theorem FrS.pre (e : Ex H H1) (f : FrS S H1 H2) : FrS S H H2 := fun b o hb h => f b o hb (e b o h)
theorem FrS.trans {H3 : Hp} (f : FrS S H H1) (g : FrS S H1 H3) : FrS S H H3 := fun b o hb h => g b o hb (f b o hb h)
theorem FrS.inn (f : FrS S H H1) (h : b ∈ S) : FrS S H (upd H1 b o) := fun c u hc hu => by
  rw [upd_ne (fun z => hc (by rw [z]; exact h))]
  exact f c u hc hu
theorem FrS.mut (f : FrS S H H1) (h : H b = none) : FrS S H (upd H1 b o) := fun c u hc hu => by
  rw [upd_ne (ne_of_none hu h)]
  exact f c u hc hu
theorem FrS.none_ex (f : FrS [] H H1) : Ex H H1 := fun b o h => f b o (List.not_mem_nil) h
theorem FrS.out (f : FrS S H H1) (h : ∀ a ∈ S, H a = none) : Ex H H1 := fun b o hb => f b o (fun z => by rw [h b z] at hb; cases hb) hb
theorem FrS.mono {S' : List Addr} (f : FrS S H H1) (h : ∀ a ∈ S, a ∈ S' ∨ H a = none) : FrS S' H H1 := fun b o hb hu => f b o (fun z => (h b z).elim hb (fun z => by rw [z] at hu; cases hu)) hu
end
section
variable {K : PySem.W.Frag} {σ : L2.St} {H H' : Hp} {ta tb te td ty tv : TE} {x y z v : V} {P : V → Hp → Prop} {i : Nat} {D : Ends} {tz tu : TS} {xs ys : List V} {g : TG} {a C dx : Addr} {fs : List (Str × V)} {f : Str} {d l : Addr} {kvs : List (Key × V)} {k : Key}
/-- self.f = value -/
theorem q_fldP {j : Nat} (h : EvP tv σ H P) (hj : σ[j]? = some (some (.ref a))) (ho : H a = some (.ins C dx fs)) (hc : Cls K C) (hn : NoAttr K C f) (hl : fs.length < 1000) (q : ∀ y H1, Ex H H1 → P y H1 → tz D σ (upd H1 a (.ins C dx (putF f y fs)))) : tSeq (sFld K (tVar j) tv f) tz D σ H :=
  h H (Ex.refl H) _ fun y H1 e p => ⟨.ref a, hj, a, C, dx, fs, rfl, e _ _ ho, hc, hn, hl, q y H1 e p⟩
theorem s_fldP {j : Nat} (h : EvP tv σ H P) (hj : σ[j]? = some (some (.ref a))) (ho : H a = some (.ins C dx fs)) (hc : Cls K C) (hn : NoAttr K C f) (hl : fs.length < 1000) (q : ∀ y H1, Ex H H1 → P y H1 → D.nx σ (upd H1 a (.ins C dx (putF f y fs)))) : sFld K (tVar j) tv f D σ H :=
  q_fldP (D := { D with nx := D.nx }) (tz := fun D => D.nx) h hj ho hc hn hl q
theorem ep_newK : EvP tDNewK σ H fun v H' => ∃ p, v = .ref p ∧ H p = none ∧ H' p = some (.dK []) := fun H1 e Q q p hp => q _ _ (Ex.new hp) ⟨p, rfl, fresh_back e hp, upd_same⟩
theorem ep_newT : EvP tDNewT σ H fun v H' => ∃ p, v = .ref p ∧ H p = none ∧ H' p = some (.dT []) := fun H1 e Q q p hp => q _ _ (Ex.new hp) ⟨p, rfl, fresh_back e hp, upd_same⟩
/-- d[k] = v -/
theorem q_dput (hv : Ev tv σ H v) (hd : Ev td σ H (.ref d)) (hy : Ev ty σ H (kV k)) (h : H d = some (.dK kvs)) (hz : kvs.length < 100000) (q : ∀ H1, Ex H H1 → tz D σ (upd H1 d (.dK (putK kvs k v)))) : tSeq (sDPut td ty tv) tz D σ H :=
  hv H (Ex.refl H) _ fun H1 e1 => hd H1 e1 _ fun H2 e2 => hy H2 (e1.trans e2) _ fun H3 e3 => ⟨d, _, rfl, .inl ⟨kvs, k, ((e1.trans e2).trans e3) _ _ h, rfl, sz_lt hz, rfl⟩, q H3 ((e1.trans e2).trans e3)⟩
theorem s_dput (hv : Ev tv σ H v) (hd : Ev td σ H (.ref d)) (hy : Ev ty σ H (kV k)) (h : H d = some (.dK kvs)) (hz : kvs.length < 100000) (q : ∀ H1, Ex H H1 → D.nx σ (upd H1 d (.dK (putK kvs k v)))) : sDPut td ty tv D σ H :=
  q_dput (D := { D with nx := D.nx }) (tz := fun D => D.nx) hv hd hy h hz q
theorem q_dputU (hv : EvU tv σ H xs) (hd : Ev td σ H (.ref d)) (hy : Ev ty σ H (kV k)) (h : H d = some (.dK kvs)) (hz : kvs.length < 100000) (q : ∀ p H1, H p = none → Ex H H1 → H1 p = some (.tup xs) → tz D σ (upd H1 d (.dK (putK kvs k (.ref p))))) : tSeq (sDPut td ty tv) tz D σ H :=
  hv H (Ex.refl H) _ fun p H1 hp e1 h1 => hd H1 e1 _ fun H2 e2 => hy H2 (e1.trans e2) _ fun H3 e3 => ⟨d, _, rfl, .inl ⟨kvs, k, ((e1.trans e2).trans e3) _ _ h, rfl, sz_lt hz, rfl⟩, q p H3 hp ((e1.trans e2).trans e3) (e3 _ _ (e2 _ _ h1))⟩
/-- x = xs.pop(0), xs.pop() -/
theorem q_pop0 (hl : H l = some (.lst (x :: xs))) (ha : Ev ta σ H (.ref l)) (q : ∀ H1, Ex H H1 → tz D (σ.set i (some x)) (upd H1 l (.lst xs))) : tSeq (tAsg (tBM K "list" rPopAt ta (tCons (tC (.int 0)) tNil)) (gName i)) tz D σ H :=
  ha H (Ex.refl H) _ fun H1 e1 => ⟨Or.inl ⟨rfl, _, sq_of (e1 _ _ hl)⟩, l, x :: xs, 0, 0, x, rfl, rfl, e1 _ _ hl, by decide, by decide, (ixN_seq (ixN_nat (n := (x :: xs).length) (j := 0) (by rw [List.length_cons]; omega))).1, rfl, q H1 e1⟩
theorem q_pop {g : TG} (hl : H l = some (.lst (xs ++ [x]))) (ha : Ev ta σ H (.ref l)) (q : ∀ H1, Ex H H1 → g x σ (upd H1 l (.lst xs)) fun σ' H' => tz D σ' H') : tSeq (tAsg (tBM0 K "list" rPop ta) g) tz D σ H :=
  ha H (Ex.refl H) _ fun H1 e1 => ⟨Or.inl ⟨rfl, _, sq_of (e1 _ _ hl)⟩, l, xs ++ [x], x, rfl, rfl, e1 _ _ hl, by simp, by
    have := q H1 e1
    rw [List.dropLast_concat]
    exact this⟩
/-- xs.extend(ys) -/
theorem q_ext {ys : List V} {b : Addr} (hl : H l = some (.lst xs)) (hb : H b = some (.lst ys)) (ha : Ev ta σ H (.ref l)) (h : Ev te σ H (.ref b)) (hz : xs.length + ys.length ≤ 100000) (q : ∀ H1, Ex H H1 → tz D σ (upd H1 l (.lst (xs ++ ys)))) : tSeq (tDrop (tBM K "list" rExtend ta (tCons te tNil))) tz D σ H :=
  ha H (Ex.refl H) _ fun H1 e1 => ⟨Or.inl ⟨rfl, _, sq_of (e1 _ _ hl)⟩, h H1 e1 _ fun H2 e2 => ⟨l, b, xs, ys, rfl, rfl, e2 _ _ (e1 _ _ hl), e2 _ _ (e1 _ _ hb), sz_of hz, q H2 (e1.trans e2)⟩⟩
theorem s_ext {ys : List V} {b : Addr} (hl : H l = some (.lst xs)) (hb : H b = some (.lst ys)) (ha : Ev ta σ H (.ref l)) (h : Ev te σ H (.ref b)) (hz : xs.length + ys.length ≤ 100000) (q : ∀ H1, Ex H H1 → D.nx σ (upd H1 l (.lst (xs ++ ys)))) : tDrop (tBM K "list" rExtend ta (tCons te tNil)) D σ H :=
  q_ext (D := { D with nx := D.nx }) (tz := fun D => D.nx) hl hb ha h hz q
theorem q_extL {ys : List V} (hl : H l = some (.lst xs)) (ha : Ev ta σ H (.ref l)) (h : EvL te σ H ys) (hz : xs.length + ys.length ≤ 100000) (q : ∀ H1, Ex H H1 → tz D σ (upd H1 l (.lst (xs ++ ys)))) : tSeq (tDrop (tBM K "list" rExtend ta (tCons te tNil))) tz D σ H :=
  ha H (Ex.refl H) _ fun H1 e1 => ⟨Or.inl ⟨rfl, _, sq_of (e1 _ _ hl)⟩, h H1 e1 _ fun b H2 hb e2 h2 => ⟨l, b, xs, ys, rfl, rfl, e2 _ _ (e1 _ _ hl), h2, sz_of hz, q H2 (e1.trans e2)⟩⟩
theorem s_extL {ys : List V} (hl : H l = some (.lst xs)) (ha : Ev ta σ H (.ref l)) (h : EvL te σ H ys) (hz : xs.length + ys.length ≤ 100000) (q : ∀ H1, Ex H H1 → D.nx σ (upd H1 l (.lst (xs ++ ys)))) : tDrop (tBM K "list" rExtend ta (tCons te tNil)) D σ H :=
  q_extL (D := { D with nx := D.nx }) (tz := fun D => D.nx) hl ha h hz q
theorem ev_len0 (h : Ev ta σ H (.ref l)) (hl : H l = some (.lst xs)) : EvT (tTest (tOp (rI0 fun i j => .bl (decide (j < i))) (tCB (rLenS K) (tCons ta tNil)) (tC (.int 0)))) σ H (decide (0 < xs.length)) :=
  et_test (ev_is (ev_op (ev_len h (sq_of hl)) ev_c rv_I0) (congrArg V.bl (decide_eq_decide.mpr (by omega))))
end
/-! sides as they are kept -/
def bI (b : Bool) : Int := if b then 1 else 0
theorem bI_not (b : Bool) : 1 - bI b = bI (!b) := by cases b <;> rfl
theorem bI_inj {a b : Bool} : bI a = bI b ↔ a = b := by cases a <;> cases b <;> decide
def sdE (sd : List (Nat × Bool)) : List (Key × V) := sd.map fun pb => (.inl (pb.1 : Int), .int (bI pb.2))
theorem sdE_val (p : Nat) : ∀ sd : List (Nat × Bool), valV (sdE sd) (.inl (p : Int)) = (sd.lookup p).map fun b => .int (bI b)
  | [] => rfl
  | (q, b) :: r => by
    show valV ((.inl (q : Int), .int (bI b)) :: sdE r) _ = _
    by_cases h : p = q
    · subst h
      rw [valV_pos rfl, List.lookup_cons, beq_self_eq_true]
      rfl
    · rw [valV_neg (fun z => h (by injection z with z; omega)), sdE_val p r, List.lookup_cons, show (p == q) = false from beq_false_of_ne h]
theorem sdE_snoc (sd : List (Nat × Bool)) (p : Nat) (b : Bool) : sdE (sd ++ [(p, b)]) = sdE sd ++ [(.inl (p : Int), .int (bI b))] := by unfold sdE; rw [List.map_append]; rfl
def sidesV (n : Nat) (s : Nat → Bool) : List V := (List.range n).map fun p => .int (bI (s p))
theorem sidesV_len (n : Nat) (s : Nat → Bool) : (sidesV n s).length = n := by unfold sidesV; rw [List.length_map, List.length_range]
theorem sidesV_get {n : Nat} {s : Nat → Bool} {p : Nat} (h : p < n) : (sidesV n s)[p]? = some (.int (bI (s p))) := by
  unfold sidesV
  rw [List.getElem?_map, List.getElem?_range h]
  rfl
end K87W
/-! sides.py -/
namespace K87W
open PySem PySem.Spec PyProof.Rows L2 Evl K87X
section
variable {P : Program} {w : World} {K : PySem.W.Frag} {mg : Str → Option Value} {base : Heap}
structure GoK (K : PySem.W.Frag) (C : Addr) : Prop where
  cls : Cls K C
  web : NoAttr K C "web"
  by_place : NoAttr K C "by_place"
  side : NoAttr K C "side"
  came : NoAttr K C "came"
def goF (a l sd cm : Addr) : List (Str × V) := [("web", .ref a), ("by_place", .ref l), ("side", .ref sd), ("came", .ref cm)]
/-! Going.__init__ -/
abbrev s_Going_init : Stmt := inClass (topS 20) 0
abbrev n_Going_init : List Str := ["self", "web"]
theorem sc_Going_init : FnScope n_Going_init ["self", "web"] (defScope s_Going_init) := ⟨rfl, rfl, rfl, by decide +kernel, rfl, by decide +kernel, by decide +kernel⟩
def sp_Going_init (C : Addr) : Sp := fun vs H Q _ => ∃ (x dx a : Addr) (n : Nat) (E : List K87.Tie), vs = [.ref x, .ref a] ∧ H x = some (.ins C dx []) ∧ Web H a n E ∧
  ∀ H' l as sd cm, FrS [x] H H' → H' x = some (.ins C dx (goF a l sd cm)) → LL H' l as (fun p => natL (K87.tiesAt E p)) → as.length = n → H' sd = some (.dK []) → H' cm = some (.dK []) → H sd = none → H cm = none → sd ≠ cm → Q .non H'
theorem ok_Going_init {C : Addr} (D : MkDef K mg C "Going" "Going.__init__" s_Going_init ["self", "web"]) (G : GoK K C) (A_ties_by_place : At P w K mg base 1 "ties_by_place" ["web"] sp_ties_by_place) : MkAt P w K mg base C 2 "Going" ["self", "web"] (sp_Going_init C) := D.at fun f fd F => by
  refine F.ok sc_Going_init (fun vs H Q E h => ?_) (fun cdv A outer s H vs Q E hr h => ?_)
  · obtain ⟨x, dx, a, n, E, rfl, _⟩ := h
    rfl
  · obtain ⟨x, dx, a, n, E, rfl, hx, W, k⟩ := h
    refine ⟨_, (pss_cons (ps_fld (pv 0) (pv 1) rfl)
      (pss_cons (ps_fld (pv 0) (pe_at A_ties_by_place (hr.mono (by decide)) (pa_cons (pv 1) pa_nil)) rfl)
      (pss_cons (ps_fld (pv 0) pe_dnewK rfl)
      (pss_one (ps_fld (pv 0) pe_dnewK rfl))))), ?_⟩
    refine q_fldP (Ev.p (ev_var (v := .ref a) rfl)) rfl hx G.cls G.web (by decide) fun y H1 e1 hy => ?_
    subst hy
    have hx1 : (upd H1 x (.ins C dx (putF "web" (.ref a) []))) x = some (.ins C dx [("web", .ref a)]) := upd_same
    have F1 : FrS [x] H (upd H1 x (.ins C dx (putF "web" (.ref a) []))) := (FrS.of e1).inn (List.mem_singleton_self _)
    generalize upd H1 x (.ins C dx (putF "web" (.ref a) [])) = G1 at hx1 F1 ⊢
    have W1 : Web G1 a n E := by
      obtain ⟨b, ts, C1⟩ := W.at_
      have nx : ∀ {u : Addr} {o : HO}, H u = some o → (∀ C' dx' fs, o ≠ .ins C' dx' fs) → u ∉ [x] := fun hu ho z => by
        rw [List.mem_singleton.mp z, hx] at hu
        exact ho _ _ _ (Option.some.inj hu).symm
      exact ⟨⟨b, ts, F1 _ _ (nx C1.top (fun _ _ _ z => by cases z)) C1.top, F1 _ _ (nx C1.ties (fun _ _ _ z => by cases z)) C1.ties, C1.len, fun i t h => F1 _ _ (nx (C1.tie i t h) (fun _ _ _ z => by cases z)) (C1.tie i t h)⟩, W.ok, W.ln, W.le⟩
    refine q_fldP (ep_call (P := ByP n E) (ea_cons (ev_var rfl) ea_nil) (sp_ties_by_place_of W1)) rfl hx1 G.cls G.by_place (show 1 < 1000 by decide) fun y H2 e2 hy => ?_
    obtain ⟨l, as, rfl, L, hlen⟩ := hy
    have L2' : LL (upd H2 x (.ins C dx (putF "by_place" (.ref l) [("web", .ref a)]))) l as (fun p => natL (K87.tiesAt E p)) := L.mut (ne_of (e2 _ _ hx1) L.top (fun z => by cases z)) (fun z => by
      obtain ⟨j, hj, ej⟩ := List.mem_iff_getElem.mp z
      exact ne_of (e2 _ _ hx1) (L.row j x (by rw [List.getElem?_eq_getElem hj, ej])) (fun z => by cases z) rfl)
    have hx2 : (upd H2 x (.ins C dx (putF "by_place" (.ref l) [("web", .ref a)]))) x = some (.ins C dx [("web", .ref a), ("by_place", .ref l)]) := upd_same
    have F2 : FrS [x] H (upd H2 x (.ins C dx (putF "by_place" (.ref l) [("web", .ref a)]))) := (F1.ex e2).inn (List.mem_singleton_self _)
    generalize upd H2 x (.ins C dx (putF "by_place" (.ref l) [("web", .ref a)])) = G2 at hx2 F2 L2' ⊢
    refine q_fldP ep_newK rfl hx2 G.cls G.side (show 2 < 1000 by decide) fun y H3 e3 hy => ?_
    obtain ⟨sd, rfl, hs0, hs1⟩ := hy
    have nxs : x ≠ sd := ne_of_none hx2 hs0
    have hx3 : (upd H3 x (.ins C dx (putF "side" (.ref sd) [("web", .ref a), ("by_place", .ref l)]))) x = some (.ins C dx [("web", .ref a), ("by_place", .ref l), ("side", .ref sd)]) := upd_same
    have F3 : FrS [x] G2 (upd H3 x (.ins C dx (putF "side" (.ref sd) [("web", .ref a), ("by_place", .ref l)]))) := (FrS.of e3).inn (List.mem_singleton_self _)
    have hs3 : (upd H3 x (.ins C dx (putF "side" (.ref sd) [("web", .ref a), ("by_place", .ref l)]))) sd = some (.dK []) := by rw [upd_ne (Ne.symm nxs)]; exact hs1
    generalize upd H3 x (.ins C dx (putF "side" (.ref sd) [("web", .ref a), ("by_place", .ref l)])) = G3 at hx3 F3 hs3 ⊢
    refine s_fldP ep_newK rfl hx3 G.cls G.came (show 3 < 1000 by decide) fun y H4 e4 hy => ?_
    obtain ⟨cm, rfl, hc0, hc1⟩ := hy
    have nxc : x ≠ cm := ne_of_none hx3 hc0
    have F4 : FrS [x] G2 (upd H4 x (.ins C dx (putF "came" (.ref cm) [("web", .ref a), ("by_place", .ref l), ("side", .ref sd)]))) := (F3.ex e4).inn (List.mem_singleton_self _)
    have nl : ∀ {u : Addr} {o : HO}, G2 u = some o → (∀ C' dx' fs, o ≠ .ins C' dx' fs) → u ∉ [x] := fun hu ho z => by
      rw [List.mem_singleton.mp z, hx2] at hu
      exact ho _ _ _ (Option.some.inj hu).symm
    refine k _ l as sd cm (F2.trans F4) upd_same ⟨F4 _ _ (nl L2'.top (fun _ _ _ z => by cases z)) L2'.top, fun i u hu => F4 _ _ (nl (L2'.row i u hu) (fun _ _ _ z => by cases z)) (L2'.row i u hu), L2'.nd, L2'.out⟩ hlen ?_ ?_ ?_ ?_ (ne_of_none hs3 hc0)
    · rw [upd_ne (Ne.symm nxs)]
      exact e4 _ _ hs3
    · rw [upd_ne (Ne.symm nxc)]
      exact hc1
    · cases h : H sd with
      | none => rfl
      | some o =>
        by_cases hb : sd ∈ [x]
        · exact absurd (List.mem_singleton.mp hb).symm nxs
        · rw [F2 sd o hb h] at hs0
          cases hs0
    · cases h : H cm with
      | none => rfl
      | some o =>
        by_cases hb : cm ∈ [x]
        · exact absurd (List.mem_singleton.mp hb).symm nxc
        · rw [(F2.trans F3) cm o hb h] at hc0
          cases hc0
/-! Going.go_from -/
structure Go (C : Addr) (H : Hp) (x a l sd cm : Addr) (as : List Addr) (n : Nat) (E : List K87.Tie) : Prop where
  obj : ∃ dx, H x = some (.ins C dx (goF a l sd cm))
  web : Web H a n E
  ll : LL H l as (fun p => natL (K87.tiesAt E p))
  len : as.length = n
  ne : sd ≠ cm
theorem Go.ex {C : Addr} {H H' : Hp} {x a l sd cm : Addr} {as : List Addr} {n : Nat} {E : List K87.Tie} (G : Go C H x a l sd cm as n E) (e : Ex H H') : Go C H' x a l sd cm as n E :=
  ⟨let ⟨dx, h⟩ := G.obj; ⟨dx, e _ _ h⟩, G.web.ex e, G.ll.ex e, G.len, G.ne⟩
/-- dicts may change -/
theorem Go.fr {C : Addr} {H H' : Hp} {x a l sd cm : Addr} {as : List Addr} {n : Nat} {E : List K87.Tie} {k1 k2 : List (Key × V)} (G : Go C H x a l sd cm as n E) (h1 : H sd = some (.dK k1)) (h2 : H cm = some (.dK k2)) (f : FrS [sd, cm] H H') : Go C H' x a l sd cm as n E := by
  have nd : ∀ {u : Addr} {o : HO}, H u = some o → (∀ k, o ≠ .dK k) → u ∉ [sd, cm] := fun hu ho z => by
    rcases List.mem_cons.mp z with z | z
    · rw [z, h1] at hu
      exact ho _ (Option.some.inj hu).symm
    · rw [List.mem_singleton.mp z, h2] at hu
      exact ho _ (Option.some.inj hu).symm
  obtain ⟨dx, ho⟩ := G.obj
  obtain ⟨b, ts, W⟩ := G.web.at_
  exact ⟨⟨dx, f _ _ (nd ho (fun _ z => by cases z)) ho⟩, ⟨⟨b, ts, f _ _ (nd W.top (fun _ z => by cases z)) W.top, f _ _ (nd W.ties (fun _ z => by cases z)) W.ties, W.len, fun i t h => f _ _ (nd (W.tie i t h) (fun _ z => by cases z)) (W.tie i t h)⟩, G.web.ok, G.web.ln, G.web.le⟩,
    ⟨f _ _ (nd G.ll.top (fun _ z => by cases z)) G.ll.top, fun i u hu => f _ _ (nd (G.ll.row i u hu) (fun _ z => by cases z)) (G.ll.row i u hu), G.ll.nd, G.ll.out⟩, G.len, G.ne⟩
abbrev s_Going_go_from : Stmt := inClass (topS 20) 1
abbrev n_Going_go_from : List Str := ["self", "place", "waiting", "here", "tie", "further"]
theorem sc_Going_go_from : FnScope n_Going_go_from ["self", "place"] (defScope s_Going_go_from) := ⟨rfl, rfl, rfl, by decide +kernel, rfl, by decide +kernel, by decide +kernel⟩
def sp_go_from (C : Addr) : Sp := fun vs H Q _ => ∃ (x a l sd cm : Addr) (as : List Addr) (n p : Nat) (E : List K87.Tie) (kv : List (Nat × Bool)) (d : Nat → Bool) (ck : List (Key × V)), vs = [.ref x, .int p] ∧ Go C H x a l sd cm as n E ∧ H sd = some (.dK (sdE kv)) ∧ H cm = some (.dK ck) ∧ ck.length ≤ kv.length ∧
  K87.SideInv n E d kv [] [] ∧ p ∉ kv.map (·.1) ∧ p < n ∧
  ∀ H' kv' d' ck', FrS [sd, cm] H H' → H' sd = some (.dK (sdE kv')) → H' cm = some (.dK ck') → ck'.length ≤ kv'.length → K87.SideInv n E d' kv' [] [] → (∀ q, q ∈ kv.map (·.1) ∨ q = p → q ∈ kv'.map (·.1)) → Q .non H'
theorem ok_go_from {C : Addr} (D : MetDef K C "go_from" "Going.go_from" s_Going_go_from ["self", "place"]) (T : Txt mg) (G : GoK K C) : MetAt P w K mg base C 1 "go_from" ["self", "place"] (sp_go_from C) := D.at fun f fd F => by
  refine F.ok sc_Going_go_from (fun vs H Q E h => ?_) (fun cdv A outer s H vs Q E hr h => ?_)
  · obtain ⟨x, a, l, sd, cm, as, n, p, E, kv, d, ck, rfl, _⟩ := h
    rfl
  · obtain ⟨x, a, l, sd, cm, as, n, p, E, kv, d, ck, rfl, O, hsd, hcm, hck, I, hp, hpn, k⟩ := h
    refine ⟨_, (pss_cons (ps_dput (hu_of hr) (pe_fld (pv 0) rfl) (pv 1) pe_int rfl)
      (pss_cons (ps_set (i := 2) sc_Going_go_from.nd rfl (Or.inl rfl) (pe_lst (pa_cons (pv 1) pa_nil)))
      (pss_cons (ps_while PassesOwn.never (pt_cmpR op_gt (pe_callB call_len_seq (by rfl) T.len PySem.boot_len (pa_cons (pv 2) pa_nil)) pe_int (nomark _)) (pss_cons (ps_set (i := 3) sc_Going_go_from.nd rfl (Or.inl rfl) (pe_bm PySem.F.plainAttrs_list PySem.F.slot_list_pop PySem.F.type_list_pop mt_popAt (pv 2) (pa_cons pe_int pa_nil)))
      (pss_one (ps_for PassesOwn.never rfl (pi_list (pe_ix ix_list (pe_fld (pv 0) rfl) (pv 3) (fun _ _ => rfl))) (pg_name (i := 4) sc_Going_go_from.nd rfl (Or.inl rfl)) (pss_cons (ps_set (i := 5) sc_Going_go_from.nd rfl (Or.inl rfl) (pe_op op_sub (pe_callB (cr_sumT rfl) (by rfl) T.sum (by decide +kernel) (pa_cons (pe_ix ix_tup (pe_ix ix_tup (pe_fld (pv 0) rfl) pe_int (fun _ _ => rfl)) (pv 4) (fun _ _ => rfl)) pa_nil)) (pv 3)))
      (pss_one (ps_if (pt_cmp (pc_dnotin (hu_of hr) (pv 5) (pe_fld (pv 0) rfl))) (pss_cons (ps_dput (hu_of hr) (pe_fld (pv 0) rfl) (pv 5) (pe_op op_sub pe_int (pe_dget (hu_of hr) (pe_fld (pv 0) rfl) (pv 3) (fun _ _ => rfl))) rfl)
      (pss_cons (ps_dput (hu_of hr) (pe_fld (pv 0) rfl) (pv 5) (pe_tup (pa_cons (pv 4) (pa_cons (pv 3) pa_nil))) rfl)
      (pss_one (ps_expr (pe_bm PySem.F.plainAttrs_list PySem.F.slot_list_append PySem.F.type_list_append mt_append (pv 2) (pa_cons (pv 5) pa_nil)))))) (pss_one (ps_if (pt_cmpR op_eq (pe_dget (hu_of hr) (pe_fld (pv 0) rfl) (pv 5) (fun _ _ => rfl)) (pe_dget (hu_of hr) (pe_fld (pv 0) rfl) (pv 3) (fun _ _ => rfl)) (nomark _)) (pss_one (ps_ret (pv 4))) pss_nil)))))))))
      (pss_one (ps_ret pe_non))))), ?_⟩
    -- readings of the object
    have hO : ∀ {H1 : Hp} {σ : L2.St}, Go C H1 x a l sd cm as n E → σ[0]? = some (some (.ref x)) → Ev (tFld K (tVar 0) "web") σ H1 (.ref a) ∧ Ev (tFld K (tVar 0) "by_place") σ H1 (.ref l) ∧ Ev (tFld K (tVar 0) "side") σ H1 (.ref sd) ∧ Ev (tFld K (tVar 0) "came") σ H1 (.ref cm) := fun {H1 σ} O1 h0 => by
      obtain ⟨dx, ho⟩ := O1.obj
      exact ⟨ev_fld (ev_var h0) ho G.cls G.web rfl, ev_fld (ev_var h0) ho G.cls G.by_place rfl, ev_fld (ev_var h0) ho G.cls G.side rfl, ev_fld (ev_var h0) ho G.cls G.came rfl⟩
    have hln := O.web.ln
    have klen := I.len
    refine q_dput (k := .inl (p : Int)) ev_c (hO O rfl).2.2.1 (ev_var rfl) hsd (by unfold sdE; rw [List.length_map]; omega) fun H1 e1 => ?_
    have hv : valV (sdE kv) (.inl (p : Int)) = none := by rw [sdE_val, K87.lookup_none.mpr hp]; rfl
    have e0 : putK (sdE kv) (.inl (p : Int)) (.int 0) = sdE (kv ++ [(p, false)]) := by rw [putK_new _ hv, sdE_snoc]; rfl
    rw [e0]
    obtain ⟨d1, I1⟩ := I.start (s := d) I.two hp hpn
    have F1 : FrS [sd, cm] H (upd H1 sd (.dK (sdE (kv ++ [(p, false)])))) := (FrS.of e1).inn List.mem_cons_self
    have s1 : (upd H1 sd (.dK (sdE (kv ++ [(p, false)])))) sd = some (.dK (sdE (kv ++ [(p, false)]))) := upd_same
    have c1 : (upd H1 sd (.dK (sdE (kv ++ [(p, false)])))) cm = some (.dK ck) := by rw [upd_ne (Ne.symm O.ne)]; exact e1 _ _ hcm
    generalize upd H1 sd (.dK (sdE (kv ++ [(p, false)]))) = G1 at F1 s1 c1 ⊢
    refine q_asgL (el_lst (ea_cons (ev_var (v := .int (p : Int)) rfl) ea_nil) (show 1 ≤ 100000 by decide)) fun wt H2 hwt e2 h2 => ?_
    have hwt0 : H wt = none := by
      cases h : H wt with
      | none => rfl
      | some o =>
        by_cases hb : wt ∈ [sd, cm]
        · rcases List.mem_cons.mp hb with z | z
          · rw [z, s1] at hwt
            cases hwt
          · rw [List.mem_singleton.mp z, c1] at hwt
            cases hwt
        · rw [F1 wt o hb h] at hwt
          cases hwt
    refine q_while (fun m σ' H' => ∃ kv1 wl d2 ck1, (m = (n - kv1.length) + wl.length ∧ m ≤ n) ∧ FrS [sd, cm] H H' ∧ H' sd = some (.dK (sdE kv1)) ∧ H' cm = some (.dK ck1) ∧ ck1.length ≤ kv1.length ∧ H' wt = some (.lst (natL wl)) ∧ K87.SideInv n E d2 kv1 wl [] ∧ (∀ q, q ∈ kv.map (·.1) ∨ q = p → q ∈ kv1.map (·.1)) ∧
      ∃ x3 x4 x5, σ' = [some (.ref x), some (.int p), some (.ref wt), x3, x4, x5]) _ ⟨kv ++ [(p, false)], [p], d1, ck, ⟨rfl, by have := I1.len; rw [List.length_append] at this ⊢; have z : kv.length + 1 ≤ n := this; show n - (kv.length + 1) + 1 ≤ n; omega⟩, F1.ex e2, e2 _ _ s1, e2 _ _ c1, by rw [List.length_append]; omega, h2, I1, fun q hq => by
        rw [List.map_append]
        exact List.mem_append.mpr (hq.imp id fun z => by rw [z]; exact List.mem_singleton_self _), _, _, _, rfl⟩ fun m σ' H' hw => ?_
    obtain ⟨kv1, wl, d2, ck1, ⟨rfl, hmn⟩, F2, s2, c2, hck1, hwl, I2, hk2, x3, x4, x5, rfl⟩ := hw
    have nsw : wt ≠ sd := fun z => by rw [z, s2] at hwl; cases hwl
    have ncw : wt ≠ cm := fun z => by rw [z, c2] at hwl; cases hwl
    refine ⟨decide (0 < wl.length), et_is (ev_len0 (ev_var rfl) hwl) (by rw [natL_len]), fun hb H3 e3 => ?_, fun hb H3 e3 => ?_⟩
    · match wl, hb, hwl, I2 with
      | h :: wl, _, hwl, I2 =>
        obtain ⟨I3, hh⟩ := I2.pop
        have hhn := I3.lt hh
        obtain ⟨bh, hbh⟩ := K87.lookup_some hh
        have hbm := K87.mem_of_lookup hbh
        refine ⟨_, fun _ _ z => z, q_pop0 (x := .int (h : Int)) (xs := natL wl) (e3 _ _ hwl) (ev_var rfl) fun H4 e4 => ?_⟩
        have F4 : FrS [sd, cm] H (upd H4 wt (.lst (natL wl))) := ((F2.ex e3).ex e4).mut hwt0
        have s4 : (upd H4 wt (.lst (natL wl))) sd = some (.dK (sdE kv1)) := by rw [upd_ne (Ne.symm nsw)]; exact e4 _ _ (e3 _ _ s2)
        have c4 : (upd H4 wt (.lst (natL wl))) cm = some (.dK ck1) := by rw [upd_ne (Ne.symm ncw)]; exact e4 _ _ (e3 _ _ c2)
        have w4 : (upd H4 wt (.lst (natL wl))) wt = some (.lst (natL wl)) := upd_same
        generalize upd H4 wt (.lst (natL wl)) = G4 at F4 s4 c4 w4 ⊢
        have O4 := O.fr hsd hcm F4
        obtain ⟨r, y1, y2, y3⟩ := O4.ll.at (i := h) (by rw [O.len]; exact hhn)
        refine s_forLn (ev_row O4.ll (hO O4 rfl).2.1 (ev_var rfl) y1) (sq_of y3) (fun i σ' H' => ∃ kv3 wl3 ck3, (n - kv3.length) + wl3.length = (n - kv1.length) + wl.length ∧ FrS [sd, cm] H H' ∧ H' sd = some (.dK (sdE kv3)) ∧ H' cm = some (.dK ck3) ∧ ck3.length ≤ kv3.length ∧ H' wt = some (.lst (natL wl3)) ∧ K87.SideInv n E d2 kv3 wl3 [h] ∧ (h, bh) ∈ kv3 ∧ (∀ q, q ∈ kv.map (·.1) ∨ q = p → q ∈ kv3.map (·.1)) ∧
          (∀ j, j < i → j < (K87.tiesAt E h).length → K87.far (K87.tieN E ((K87.tiesAt E h).getD j 0)) h ∈ kv3.map (·.1)) ∧ ∃ x4 x5, σ' = [some (.ref x), some (.int p), some (.ref wt), some (.int (h : Int)), x4, x5]) (fun H5 e5 => ⟨kv1, wl, ck1, rfl, F4.ex e5, e5 _ _ s4, e5 _ _ c4, hck1, e5 _ _ w4, I3, hbm, hk2, fun j hj => absurd hj (Nat.not_lt_zero _), _, _, rfl⟩) (fun i σ' H' _ q => ?_) (fun i v σ' H' hx q => ?_) fun σ' H' q => ?_
        · obtain ⟨kv3, wl3, ck3, q1, q2, _⟩ := q
          obtain ⟨r', z1, z2, z3⟩ := (O.fr hsd hcm q2).ll.at (i := h) (by rw [O.len]; exact hhn)
          rw [y1] at z1
          cases z1
          exact sq_of z3
        · obtain ⟨kv3, wl3, ck3, q1, F5, s5, c5, hck3, w5, I5, hb5, hk5, hj5, x4, x5, rfl⟩ := q
          obtain ⟨hi, rfl⟩ := natL_of hx
          have htm := getD_mem' hi
          generalize ht : (K87.tiesAt E h).getD i 0 = t at htm ⊢
          obtain ⟨htl, hth⟩ := K87.mem_tiesAt.mp htm
          have O5 := O.fr hsd hcm F5
          obtain ⟨b, ts, CW⟩ := O5.web.at_
          obtain ⟨q', z1, z2, z3⟩ := CW.tie_at htl
          refine q_asg (v := .int (K87.far (K87.tieN E t) h : Nat)) (ev_is (ev_op (ev_cb (ea_cons (ev_tie CW (hO O5 rfl).1 (ev_var rfl) z1) ea_nil) (rc_sumT z3)) (ev_var rfl) rv_I0) (by
            have := K87.far_sum hth
            exact congrArg V.int (by omega))) fun H6 e6 => ?_
          have O6 := O5.ex e6
          have look := K87.lookup_of_mem I5.nd hb5
          refine s_if (et_dni (k := .inl ((K87.far (K87.tieN E t) h : Nat) : Int)) (hO O6 rfl).2.2.1 (ev_var rfl) (e6 _ _ s5)) (fun hb H7 e7 => ?_) (fun hb H7 e7 => ?_)
          · have hnew : K87.far (K87.tieN E t) h ∉ kv3.map (·.1) := by
              rw [sdE_val] at hb
              refine K87.lookup_none.mp ?_
              cases hq : kv3.lookup (K87.far (K87.tieN E t) h) with
              | none => rfl
              | some z => rw [hq] at hb; cases hb
            have hvn : valV (sdE kv3) (.inl ((K87.far (K87.tieN E t) h : Nat) : Int)) = none := by rw [sdE_val, K87.lookup_none.mpr hnew]; rfl
            have I7 := I5.new O.web.ok hb5 htl hth hnew
            have l5 := I5.len
            have l7 := I7.len
            rw [List.length_append] at l7
            have l7' : kv3.length + 1 ≤ n := l7
            have O7 := O6.ex e7
            have s7 := e7 _ _ (e6 _ _ s5)
            refine q_dput (k := .inl ((K87.far (K87.tieN E t) h : Nat) : Int)) (v := .int (bI (!bh))) (ev_is (ev_op ev_c (ev_dget (k := .inl (h : Int)) (hO O7 rfl).2.2.1 (ev_var rfl) s7 (by rw [sdE_val, look]; rfl)) rv_I0) (congrArg V.int (bI_not _))) (hO O7 rfl).2.2.1 (ev_var rfl) s7 (by unfold sdE; rw [List.length_map]; omega) fun H8 e8 => ?_
            rw [putK_new _ hvn, ← sdE_snoc]
            have F8 : FrS [sd, cm] H (upd H8 sd (.dK (sdE (kv3 ++ [(K87.far (K87.tieN E t) h, !bh)])))) := (((F5.ex e6).ex e7).ex e8).inn List.mem_cons_self
            have s8 : (upd H8 sd (.dK (sdE (kv3 ++ [(K87.far (K87.tieN E t) h, !bh)])))) sd = some (.dK (sdE (kv3 ++ [(K87.far (K87.tieN E t) h, !bh)]))) := upd_same
            have c8 : (upd H8 sd (.dK (sdE (kv3 ++ [(K87.far (K87.tieN E t) h, !bh)])))) cm = some (.dK ck3) := by rw [upd_ne (Ne.symm O.ne)]; exact e8 _ _ (e7 _ _ (e6 _ _ c5))
            have w8 : (upd H8 sd (.dK (sdE (kv3 ++ [(K87.far (K87.tieN E t) h, !bh)])))) wt = some (.lst (natL wl3)) := by rw [upd_ne nsw]; exact e8 _ _ (e7 _ _ (e6 _ _ w5))
            generalize upd H8 sd (.dK (sdE (kv3 ++ [(K87.far (K87.tieN E t) h, !bh)]))) = G8 at F8 s8 c8 w8 ⊢
            have O8 := O.fr hsd hcm F8
            refine q_dputU (k := .inl ((K87.far (K87.tieN E t) h : Nat) : Int)) (eu_tup2 (ev_var rfl) (ev_var rfl)) (hO O8 rfl).2.2.2 (ev_var rfl) c8 (by omega) fun pt H9 hpt e9 h9 => ?_
            have F9 : FrS [sd, cm] H (upd H9 cm (.dK (putK ck3 (.inl ((K87.far (K87.tieN E t) h : Nat) : Int)) (.ref pt)))) := (F8.ex e9).inn (List.mem_cons_of_mem _ (List.mem_singleton_self _))
            have s9 : (upd H9 cm (.dK (putK ck3 (.inl ((K87.far (K87.tieN E t) h : Nat) : Int)) (.ref pt)))) sd = some (.dK (sdE (kv3 ++ [(K87.far (K87.tieN E t) h, !bh)]))) := by rw [upd_ne O.ne]; exact e9 _ _ s8
            have c9 : (upd H9 cm (.dK (putK ck3 (.inl ((K87.far (K87.tieN E t) h : Nat) : Int)) (.ref pt)))) cm = some (.dK (putK ck3 (.inl ((K87.far (K87.tieN E t) h : Nat) : Int)) (.ref pt))) := upd_same
            have w9 : (upd H9 cm (.dK (putK ck3 (.inl ((K87.far (K87.tieN E t) h : Nat) : Int)) (.ref pt)))) wt = some (.lst (natL wl3)) := by rw [upd_ne ncw]; exact e9 _ _ w8
            have lk := length_putK ck3 (.inl ((K87.far (K87.tieN E t) h : Nat) : Int)) (.ref pt)
            generalize upd H9 cm (.dK (putK ck3 (.inl ((K87.far (K87.tieN E t) h : Nat) : Int)) (.ref pt))) = G9 at F9 s9 c9 w9 ⊢
            have wlen : wl3.length ≤ 1000 := by rw [List.length_cons] at hmn; omega
            refine s_app w9 (ev_var rfl) (ev_var rfl) (by rw [natL_len]; omega) fun H10 e10 => ?_
            refine ⟨kv3 ++ [(K87.far (K87.tieN E t) h, !bh)], wl3 ++ [K87.far (K87.tieN E t) h], _, by rw [List.length_append, List.length_append]; show n - (kv3.length + 1) + (wl3.length + 1) = _; omega, (F9.ex e10).mut hwt0, by rw [upd_ne (Ne.symm nsw)]; exact e10 _ _ s9, by rw [upd_ne (Ne.symm ncw)]; exact e10 _ _ c9, by rw [List.length_append]; show _ ≤ kv3.length + 1; omega,
              by rw [upd_same, natL_app]; rfl, I7, List.mem_append_left _ hb5, fun q hq => by rw [List.map_append]; exact List.mem_append_left _ (hk5 q hq), fun j hj hjl => ?_, _, _, rfl⟩
            rw [List.map_append]
            by_cases hji : j = i
            · subst hji
              rw [ht]
              exact List.mem_append_right _ (List.mem_singleton_self _)
            · exact List.mem_append_left _ (hj5 j (by omega) hjl)
          · have hold : ∃ c, kv3.lookup (K87.far (K87.tieN E t) h) = some c := by
              rw [sdE_val] at hb
              cases hq : kv3.lookup (K87.far (K87.tieN E t) h) with
              | none => rw [hq] at hb; cases hb
              | some z => exact ⟨z, rfl⟩
            obtain ⟨c, hc⟩ := hold
            have ne := I5.old hb5 htl hth (K87.mem_of_lookup hc)
            have O7 := O6.ex e7
            have s7 := e7 _ _ (e6 _ _ s5)
            refine s_when (b := false) (et_test (ev_is (ev_op (ev_dget (k := .inl ((K87.far (K87.tieN E t) h : Nat) : Int)) (v := .int (bI c)) (hO O7 rfl).2.2.1 (ev_var rfl) s7 (by rw [sdE_val, hc]; rfl)) (ev_dget (k := .inl (h : Int)) (v := .int (bI bh)) (hO O7 rfl).2.2.1 (ev_var rfl) s7 (by rw [sdE_val, look]; rfl)) (rv_eq rfl)) (congrArg V.bl (decide_eq_false (fun z => ne (bI_inj.mp (by injection z))))))) (fun z => nomatch z) fun _ H8 e8 => ?_
            refine ⟨kv3, wl3, ck3, q1, ((F5.ex e6).ex e7).ex e8, e8 _ _ s7, e8 _ _ (e7 _ _ (e6 _ _ c5)), hck3, e8 _ _ (e7 _ _ (e6 _ _ w5)), I5, hb5, hk5, fun j hj hjl => ?_, _, _, rfl⟩
            by_cases hji : j = i
            · subst hji
              rw [ht]
              exact K87.key_of_mem (K87.mem_of_lookup hc)
            · exact hj5 j (by omega) hjl
        · obtain ⟨kv3, wl3, ck3, q1, F5, s5, c5, hck3, w5, I5, hb5, hk5, hj5, x4, x5, rfl⟩ := q
          refine ⟨(n - kv3.length) + wl3.length, by rw [q1, List.length_cons]; omega, kv3, wl3, d2, ck3, ⟨rfl, by rw [List.length_cons] at hmn; omega⟩, F5, s5, c5, hck3, w5, I5.done fun t ht => ?_, hk5, _, _, _, rfl⟩
          obtain ⟨j, hj, ej⟩ := List.mem_iff_getElem.mp ht
          have := hj5 j (by rw [natL_len]; exact hj) hj
          rw [List.getD_eq_getElem?_getD, List.getElem?_eq_getElem hj] at this
          rw [← ej]
          exact this
    · match wl, hb, hwl, I2 with
      | [], _, hwl, I2 => exact s_ret ev_c fun H4 e4 => k H4 kv1 d2 ck1 ((F2.ex e3).ex e4) (e4 _ _ (e3 _ _ s2)) (e4 _ _ (e3 _ _ c2)) hck1 I2 hk2
      | h :: wl, hb, _, _ => exact absurd hb (by simp)
end
end K87W
/-! two_sides, sides_of -/
namespace K87W
open PySem PySem.Spec PyProof.Rows L2 Evl K87X
section
variable {K : PySem.W.Frag} {σ : L2.St} {H H' H1 H2 : Hp} {ta tb te td ty tv : TE} {t : TA} {x y z v : V} {P : V → Hp → Prop} {i j : Nat} {D : Ends} {tz tu : TS} {xs vs : List V} {g : TG} {a C dx : Addr} {fs : List (Str × V)} {m : Str} {sp : Sp} {E : XK} {S : List Addr}
theorem Ex.fr (e : Ex H H1) (f : FrS S H1 H2) (h : ∀ b ∈ S, H b = none) : Ex H H2 := fun b o hb => f b o (fun z => by rw [h b z] at hb; cases hb) (e b o hb)
theorem q_make (ha : EvA t σ H vs) (k : ∀ x dx H1, Ex H H1 → H1 x = none → H1 dx = none → dx ≠ x → sp (.ref x :: vs) (upd (upd H1 dx (.own x)) x (.ins C dx [])) (fun v H2 => v = .non ∧ tz D (σ.set i (some (.ref x))) H2) E) : tSeq (tAsg (tMake C sp [] E t) (gName i)) tz D σ H :=
  ha H (Ex.refl H) _ fun H1 e1 x dx h1 h2 h3 => by
    rw [List.append_nil]
    exact k x dx H1 e1 h1 h2 h3
theorem q_meth (hj : σ[j]? = some (some (.ref a))) (ho : H a = some (.ins C dx fs)) (hl : fs.lookup m = none) (ha : EvA t σ H vs) (k : ∀ H1, Ex H H1 → sp (.ref a :: vs) H1 (fun v H2 => g v σ H2 fun σ' H' => tz D σ' H') E) : tSeq (tAsg (tMeth C m sp [] E (tVar j) t) g) tz D σ H :=
  ⟨.ref a, hj, a, dx, fs, rfl, ho, hl, ha H (Ex.refl H) _ fun H1 e1 => by
    rw [List.append_nil]
    exact k H1 e1⟩
theorem et_isN {b : Bool} (h : Ev ta σ H x) (hb : decide (x = .non) = b) : EvT (tTest (tOp (fun x y H Q => y = .non ∧ Q (.bl (decide (x = .non))) H) ta (tC .non))) σ H b := et_test (ev_op h ev_c fun H1 e Q q => ⟨rfl, by rw [hb]; exact q H1 (Ex.refl _)⟩)
theorem et_notN {b : Bool} (h : Ev ta σ H x) (hb : (!decide (x = .non)) = b) : EvT (tTest (tOp (fun x y H Q => y = .non ∧ Q (.bl (!decide (x = .non))) H) ta (tC .non))) σ H b := et_test (ev_op h ev_c fun H1 e Q q => ⟨rfl, by rw [hb]; exact q H1 (Ex.refl _)⟩)
/-- a new tuple of a value and what a call answers -/
theorem ep_tupL (ha : Ev ta σ H x) (hb : EvL tb σ H xs) : EvP (tTup (tCons ta (tCons tb tNil))) σ H fun v H' => ∃ q l, v = .ref q ∧ H' q = some (.tup [x, .ref l]) ∧ H' l = some (.lst xs) ∧ H l = none := fun H1 e Q k =>
  ha H1 e _ fun H2 e2 => hb H2 (e.trans e2) _ fun l H3 hl e3 h3 => ⟨show 2 ≤ sizeLine by decide, fun q hq => k _ _ ((e2.trans e3).trans (Ex.new hq)) ⟨q, l, rfl, upd_same, Ex.new hq _ _ h3, fresh_back (e.trans e2) hl⟩⟩
end
section
variable {P : Program} {w : World} {K : PySem.W.Frag} {mg : Str → Option Value} {base : Heap}
def Sided (n : Nat) (E : List K87.Tie) (l : Addr) (H : Hp) : Prop := ∃ s, H l = some (.lst (sidesV n s)) ∧ K87.Two E s
abbrev s_two_sides : Stmt := topS 21
abbrev n_two_sides : List Str := ["web", "going", "place", "tie"]
theorem sc_two_sides : FnScope n_two_sides ["web"] (defScope s_two_sides) := ⟨rfl, rfl, rfl, by decide +kernel, rfl, by decide +kernel, by decide +kernel⟩
def sp_two_sides : Sp := fun vs H Q _ => ∃ (a : Addr) (n : Nat) (E : List K87.Tie), vs = [.ref a] ∧ Web H a n E ∧ (∃ s, K87.Two E s) ∧ RetP (fun v H' => ∃ q l, v = .ref q ∧ H' q = some (.tup [.str (Str.ofString "sides"), .ref l]) ∧ Sided n E l H') H Q
theorem ok_two_sides {C : Addr} (D : DefAt K mg "two_sides" s_two_sides ["web"]) (T : Txt mg) (G : GoK K C) (A_Going : MkAt P w K mg base C 2 "Going" ["self", "web"] (sp_Going_init C)) (A_go_from : MetAt P w K mg base C 1 "go_from" ["self", "place"] (sp_go_from C)) : At P w K mg base 4 "two_sides" ["web"] sp_two_sides := D.at fun f fd F => by
  refine F.ok sc_two_sides (fun vs H Q E h => ?_) (fun cdv A outer s H vs Q E hr h => ?_)
  · obtain ⟨a, n, E, rfl, _⟩ := h
    rfl
  · obtain ⟨a, n, E, rfl, W, ⟨s0, two⟩, k⟩ := h
    obtain ⟨tS, h_SIDES⟩ := T.SIDES
    obtain ⟨tR, h_RING⟩ := T.RING
    have C_go_from := G.cls
    refine ⟨_, (pss_cons (ps_set (i := 1) sc_two_sides.nd rfl (Or.inr rfl) (pe_mkat A_Going (hr.mono (by decide)) (pa_cons (pv 0) pa_nil)))
      (pss_cons (ps_for PassesOwn.never rfl (pi_range1 rfl T.range (pa_cons (pe_ix ix_tup (pv 0) pe_int (fun _ _ => rfl)) pa_nil)) (pg_name (i := 2) sc_two_sides.nd rfl (Or.inl rfl)) (pss_one (ps_if (pt_cmp (pc_dnotin (hu_of hr) (pv 2) (pe_fld (pv 1) rfl))) (pss_cons (ps_set (i := 3) sc_two_sides.nd rfl (Or.inl rfl) (pe_metat C_go_from A_go_from (pv 1) (hr.mono (by decide)) (pa_cons (pv 2) pa_nil)))
      (pss_one (ps_if (pt_cmpR op_notN (pv 3) pe_non (nomark _)) pss_never pss_nil))) pss_nil)))
      (pss_one (ps_ret (pe_tup (pa_cons (pe_glob (v := .str (Str.ofString "sides")) rfl h_SIDES ⟨_, rfl⟩) (pa_cons (pe_lc (own := [("place", 2)]) rfl sc_two_sides.nd (pi_range1 rfl T.range (pa_cons (pe_ix ix_tup (pv 0) pe_int (fun _ _ => rfl)) pa_nil)) (blkOk_by (own := [("place", 2)]) (N := n_two_sides) (sc := defScope s_two_sides) (by decide +kernel)) (fun _ _ _ _ _ => (pg_name (i := 2) sc_two_sides.nd rfl (Or.inl rfl))) (fun _ _ _ _ _ => pts_nil) (fun _ _ _ _ _ => (pe_dget (hu_of hr) (pe_fldK (K := K) rfl (pv 1) rfl) (pv 2) (fun _ _ => rfl)))) pa_nil))))))), ?_⟩
    have hln := W.ln
    refine q_make (ea_cons (ev_var rfl) ea_nil) fun x dx H1 e1 hx hdx hne => ?_
    have M0 : Ex H1 (upd (upd H1 dx (.own x)) x (.ins C dx [])) := (Ex.new hdx).trans (Ex.new (by rw [upd_ne (Ne.symm hne)]; exact hx))
    have Mx : (upd (upd H1 dx (.own x)) x (.ins C dx [])) x = some (.ins C dx []) := upd_same
    generalize upd (upd H1 dx (.own x)) x (.ins C dx []) = G0 at M0 Mx ⊢
    refine ⟨x, dx, a, n, E, rfl, Mx, W.ex (e1.trans M0), fun G1 l as sd cm fr hx1 L hlen hsd hcm hsd0 hcm0 hsc => ⟨rfl, ?_⟩⟩
    have ex1 : Ex H G1 := fun b o hb => by
      have h1 := e1 _ _ hb
      exact fr b o (fun z => by rw [List.mem_singleton.mp z, hx] at h1; cases h1) (M0 _ _ h1)
    have fs0 : ∀ b ∈ [sd, cm], H b = none := fun b hb => by
      rcases List.mem_cons.mp hb with z | z
      · rw [z]; exact fresh_back (e1.trans M0) hsd0
      · rw [List.mem_singleton.mp z]; exact fresh_back (e1.trans M0) hcm0
    obtain ⟨b, ts, CW⟩ := W.at_
    have hO : ∀ {H1 : Hp} {σ : L2.St}, Go C H1 x a l sd cm as n E → σ[1]? = some (some (.ref x)) → Ev (tFld K (tVar 1) "side") σ H1 (.ref sd) := fun {H1 σ} O1 h0 => by
      obtain ⟨dx, ho⟩ := O1.obj
      exact ev_fld (ev_var h0) ho G.cls G.side rfl
    refine q_forR1 (ea_cons (ev_n (CW.ex ex1) (ev_var rfl)) ea_nil) (by omega) (fun i σ' H' => ∃ kv d ck, Ex H H' ∧ Go C H' x a l sd cm as n E ∧ H' sd = some (.dK (sdE kv)) ∧ H' cm = some (.dK ck) ∧ ck.length ≤ kv.length ∧ K87.SideInv n E d kv [] [] ∧ (∀ q, q < i → q ∈ kv.map (·.1)) ∧ ∃ x2 x3, σ' = [some (.ref a), some (.ref x), x2, x3])
      (fun H2 e2 => ⟨[], s0, [], ex1.trans e2, ⟨⟨dx, e2 _ _ hx1⟩, W.ex (ex1.trans e2), L.ex e2, hlen, hsc⟩, e2 _ _ hsd, e2 _ _ hcm, Nat.le_refl _, .empty two, fun q hq => absurd hq (Nat.not_lt_zero _), _, _, rfl⟩) (fun i σ' H' hi p => ?_) fun σ' H' p => ?_
    · obtain ⟨kv, d, ck, p1, O, s1, c1, hck, I, hk, x2, x3, rfl⟩ := p
      refine s_if (et_dni (k := .inl (i : Int)) (hO O rfl) (ev_var rfl) s1) (fun hb H2 e2 => ?_) (fun hb H2 e2 => ?_)
      · have hnew : i ∉ kv.map (·.1) := by
          rw [sdE_val] at hb
          refine K87.lookup_none.mp ?_
          cases hq : kv.lookup i with
          | none => rfl
          | some z => rw [hq] at hb; cases hb
        obtain ⟨dx', ho⟩ := O.obj
        refine q_meth rfl (e2 _ _ ho) rfl (ea_cons (ev_var rfl) ea_nil) fun H3 e3 => ?_
        have O3 := (O.ex e2).ex e3
        refine ⟨x, a, l, sd, cm, as, n, i, E, kv, d, ck, rfl, O3, e3 _ _ (e2 _ _ s1), e3 _ _ (e2 _ _ c1), hck, I, hnew, by omega, fun G4 kv' d' ck' f4 s4 c4 hck4 I4 hk4 => ?_⟩
        have O4 := O3.fr (e3 _ _ (e2 _ _ s1)) (e3 _ _ (e2 _ _ c1)) f4
        refine s_when (b := false) (et_notN (ev_var rfl) rfl) (fun z => nomatch z) fun _ H5 e5 => ?_
        refine ⟨kv', d', ck', (Ex.fr ((p1.trans e2).trans e3) f4 fs0).trans e5, O4.ex e5, e5 _ _ s4, e5 _ _ c4, hck4, I4, fun q hq => ?_, _, _, rfl⟩
        by_cases hqi : q = i
        · exact hk4 q (.inr hqi)
        · exact hk4 q (.inl (hk q (by omega)))
      · refine ⟨kv, d, ck, p1.trans e2, O.ex e2, e2 _ _ s1, e2 _ _ c1, hck, I, fun q hq => ?_, _, _, rfl⟩
        by_cases hqi : q = i
        · rw [hqi]
          rw [sdE_val] at hb
          cases hq : kv.lookup i with
          | none => rw [hq] at hb; cases hb
          | some z => exact K87.key_of_mem (K87.mem_of_lookup hq)
        · exact hk q (by omega)
    · obtain ⟨kv, d, ck, p1, O, s1, c1, hck, I, hk, x2, x3, rfl⟩ := p
      rw [show ((n : Int).toNat) = n by omega] at hk
      refine s_retP (ep_tupL ev_c (xs := sidesV n d) (el_is (el_lcR1 (n := (n : Int)) (fun _ => true) (fun p => .int (bI (d p))) (ea_cons (ev_n (CW.ex p1) (ev_var rfl)) ea_nil) (by omega) (fun x => rfl) (fun i H3 e3 hi => fun H4 _ _ q => q H4 (Ex.refl _)) (fun i H3 e3 hi _ => ?_)) ?_)) fun v H2 e2 hv => ?_
      · have hi' : i < n := by omega
        obtain ⟨c, hc⟩ := K87.lookup_some (hk i hi')
        have := (I.val _ _ (K87.mem_of_lookup hc)).1
        exact ev_dget (k := .inl (i : Int)) (hO (O.ex e3) rfl) (ev_var rfl) (e3 _ _ s1) (by rw [sdE_val, hc, this]; rfl)
      · rw [given_all, show ((n : Int).toNat) = n by omega]
        rfl
      · obtain ⟨q, l', rfl, h1, h2, _⟩ := hv
        exact k _ H2 (p1.trans e2) ⟨q, l', rfl, h1, d, h2, I.two⟩
abbrev s_sides_of : Stmt := topS 23
abbrev n_sides_of : List Str := ["web", "word", "found"]
theorem sc_sides_of : FnScope n_sides_of ["web"] (defScope s_sides_of) := ⟨rfl, rfl, rfl, by decide +kernel, rfl, by decide +kernel, by decide +kernel⟩
def sp_sides_of : Sp := fun vs H Q _ => ∃ (a : Addr) (n : Nat) (E : List K87.Tie), vs = [.ref a] ∧ Web H a n E ∧ (∃ s, K87.Two E s) ∧ RetP (fun v H' => ∃ l, v = .ref l ∧ Sided n E l H') H Q
theorem sp_sides_of_of {H : Hp} {a : Addr} {n : Nat} {E : List K87.Tie} (W : Web H a n E) (two : ∃ s, K87.Two E s) : ∀ H1, Ex H H1 → ∀ (Q : VK) (E' : XK), (∀ v H2, Ex H1 H2 → (∃ l, v = .ref l ∧ Sided n E l H2) → Q v H2) → sp_sides_of [.ref a] H1 Q E' := fun H1 e Q _ q => ⟨a, n, E, rfl, W.ex e, two, q⟩
theorem ok_sides_of (D : DefAt K mg "sides_of" s_sides_of ["web"]) (T : Txt mg) (A_two_sides : At P w K mg base 4 "two_sides" ["web"] sp_two_sides) : At P w K mg base 5 "sides_of" ["web"] sp_sides_of := D.at fun f fd F => by
  refine F.ok sc_sides_of (fun vs H Q E h => ?_) (fun cdv A outer s H vs Q E hr h => ?_)
  · obtain ⟨a, n, E, rfl, _⟩ := h
    rfl
  · obtain ⟨a, n, E, rfl, W, two, k⟩ := h
    refine ⟨_, (pss_cons (ps_asg (pe_at A_two_sides (hr.mono (by decide)) (pa_cons (pv 0) pa_nil)) (pg_tup rfl (pgs_cons (pg_name (i := 1) sc_sides_of.nd rfl (Or.inl rfl)) (pgs_cons (pg_name (i := 2) sc_sides_of.nd rfl (Or.inl rfl)) pgs_nil))))
      (pss_cons (ps_if (pt_cmpR op_eq (pv 1) pe_str (nomark _)) pss_never pss_nil)
      (pss_one (ps_ret (pv 2))))), ?_⟩
    refine q_asgP (ep_call (P := fun v H' => ∃ q l, v = .ref q ∧ H' q = some (.tup [.str (Str.ofString "sides"), .ref l]) ∧ Sided n E l H') (ea_cons (ev_var rfl) ea_nil) fun H1 e Q _ q => ⟨a, n, E, rfl, W.ex e, two, q⟩) fun v H1 e1 hv => ?_
    obtain ⟨q, l, rfl, h1, s, h2, two'⟩ := hv
    refine g_pair h1 ?_
    refine q_when (b := false) (et_test (ev_is (ev_op (ev_var rfl) ev_c (rv_eq rfl)) (congrArg V.bl (by decide)))) (fun z => nomatch z) fun _ H2 e2 => ?_
    exact s_ret (ev_var rfl) fun H3 e3 => k _ H3 ((e1.trans e2).trans e3) ⟨l, rfl, s, e3 _ _ (e2 _ _ h2), two'⟩
end
end K87W
/-! pairings.py: what Pairs holds -/
namespace K87W
open PySem PySem.Spec PyProof.Rows L2 Evl K87X
/-- tuples stay -/
def TEx (H H' : Hp) : Prop := ∀ (b : Addr) (ys : List V), H b = some (.tup ys) → H' b = some (.tup ys)
theorem TEx.of {H H' : Hp} (e : Ex H H') : TEx H H' := fun b ys h => e b _ h
theorem TEx.trans {H H1 H2 : Hp} (e : TEx H H1) (f : TEx H1 H2) : TEx H H2 := fun b ys h => f b ys (e b ys h)
theorem TEx.upd {H : Hp} {a : Addr} {o u : HO} (h : H a = some u) (hu : ∀ ys, u ≠ .tup ys) : TEx H (upd H a o) := fun b ys hb => by
  rw [upd_ne (fun z => by rw [z, h] at hb; exact hu ys (Option.some.inj hb))]
  exact hb
theorem TEx.fr {H H' : Hp} {S : List Addr} (f : FrS S H H') (h : ∀ b ∈ S, ∀ ys, H b ≠ some (.tup ys)) : TEx H H' := fun b ys hb => f b _ (fun z => h b z ys hb) hb
/-- a place's ties with their other ends -/
structure RowP (H : Hp) (E : List K87.Tie) (p : Nat) (l : List Nat) (qs : List Addr) : Prop where
  len : qs.length = l.length
  at_ : ∀ j q, qs[j]? = some q → H q = some (.tup [.int (l.getD j 0 : Nat), .int (K87.far (K87.tieN E (l.getD j 0)) p : Nat)])
theorem RowP.ex {H H' : Hp} {E : List K87.Tie} {p : Nat} {l : List Nat} {qs : List Addr} (R : RowP H E p l qs) (e : TEx H H') : RowP H' E p l qs := ⟨R.len, fun j q h => e _ _ (R.at_ j q h)⟩
theorem RowP.snoc {H : Hp} {E : List K87.Tie} {p t : Nat} {l : List Nat} {qs : List Addr} {q : Addr} (R : RowP H E p l qs) (h : H q = some (.tup [.int (t : Nat), .int (K87.far (K87.tieN E t) p : Nat)])) : RowP H E p (l ++ [t]) (qs ++ [q]) := by
  refine ⟨by rw [List.length_append, List.length_append, R.len]; rfl, fun j q' hj => ?_⟩
  have hl := R.len
  by_cases hk : j < qs.length
  · rw [List.getElem?_append_left hk] at hj
    have := R.at_ j q' hj
    rw [show (l ++ [t]).getD j 0 = l.getD j 0 by rw [List.getD_eq_getElem?_getD, List.getElem?_append_left (by omega), ← List.getD_eq_getElem?_getD]]
    exact this
  · rw [List.getElem?_append_right (by omega)] at hj
    have h0 : j - qs.length = 0 := by
      by_cases h0 : j - qs.length = 0
      · exact h0
      · rw [List.getElem?_eq_none (by simp; omega)] at hj
        cases hj
    rw [h0] at hj
    cases hj
    have hjl : j = l.length := by omega
    rw [show (l ++ [t]).getD j 0 = t by rw [List.getD_eq_getElem?_getD, List.getElem?_append_right (by omega), hjl, Nat.sub_self]; rfl]
    exact h
def Near (H : Hp) (l : Addr) (as : List Addr) (n : Nat) (E : List K87.Tie) (ls : Nat → List Nat) : Prop := as.length = n ∧ ∃ qs : Nat → List Addr, LL H l as (fun p => (qs p).map V.ref) ∧ ∀ p, p < n → RowP H E p (ls p) (qs p)
theorem Near.ex {H H' : Hp} {l : Addr} {as : List Addr} {n : Nat} {E : List K87.Tie} {ls : Nat → List Nat} (N : Near H l as n E ls) (e : Ex H H') : Near H' l as n E ls :=
  let ⟨h, qs, L, r⟩ := N
  ⟨h, qs, L.ex e, fun p hp => (r p hp).ex (TEx.of e)⟩
theorem Near.congr {H : Hp} {l : Addr} {as : List Addr} {n : Nat} {E : List K87.Tie} {ls ls' : Nat → List Nat} (N : Near H l as n E ls) (e : ∀ p, p < n → ls p = ls' p) : Near H l as n E ls' :=
  let ⟨h, qs, L, r⟩ := N
  ⟨h, qs, L, fun p hp => by rw [← e p hp]; exact r p hp⟩
theorem Near.mut {H : Hp} {l b : Addr} {as : List Addr} {n : Nat} {E : List K87.Tie} {ls : Nat → List Nat} {o u : HO} (N : Near H l as n E ls) (h1 : b ≠ l) (h2 : b ∉ as) (h : H b = some u) (hu : ∀ ys, u ≠ .tup ys) : Near (upd H b o) l as n E ls :=
  let ⟨hl, qs, L, r⟩ := N
  ⟨hl, qs, L.mut h1 h2, fun p hp => (r p hp).ex (TEx.upd h hu)⟩
theorem Near.put {H : Hp} {l a : Addr} {as : List Addr} {n i t : Nat} {E : List K87.Tie} {ls : Nat → List Nat} {q : Addr} {xs : List V} (N : Near H l as n E ls) (ha : as[i]? = some a) (hx : H a = some (.lst xs)) (hq : H q = some (.tup [.int (t : Nat), .int (K87.far (K87.tieN E t) i : Nat)])) : Near (upd H a (.lst (xs ++ [.ref q]))) l as n E (K87.setf ls i (ls i ++ [t])) := by
  obtain ⟨h, qs, L, r⟩ := N
  have hr := L.row i a ha
  rw [hx] at hr
  have ex : xs = (qs i).map V.ref := by injection hr with hr; injection hr
  have e := TEx.upd (o := .lst (xs ++ [.ref q])) hx (fun ys z => by cases z)
  refine ⟨h, K87.setf qs i (qs i ++ [q]), (L.put ha).congr fun p hp => ?_, fun p hp => ?_⟩
  · by_cases hpi : p = i
    · subst hpi
      rw [K87.setf_same, K87.setf_same, ex, List.map_append]
      rfl
    · rw [K87.setf_ne hpi, K87.setf_ne hpi]
  · by_cases hpi : p = i
    · subst hpi
      rw [K87.setf_same, K87.setf_same]
      exact ((r p hp).snoc hq).ex e
    · rw [K87.setf_ne hpi, K87.setf_ne hpi]
      exact (r p hp).ex e
section
variable {P : Program} {w : World} {K : PySem.W.Frag} {mg : Str → Option Value} {base : Heap}
abbrev s_pairs_by_place : Stmt := topS 24
abbrev n_pairs_by_place : List Str := ["web", "found", "tie", "one", "other", "place"]
theorem sc_pairs_by_place : FnScope n_pairs_by_place ["web"] (defScope s_pairs_by_place) := ⟨rfl, rfl, rfl, by decide +kernel, rfl, by decide +kernel, by decide +kernel⟩
def PbP (n : Nat) (E : List K87.Tie) : V → Hp → Prop := fun v H' => ∃ l as, v = .ref l ∧ Near H' l as n E (K87.tiesAt E)
def sp_pairs_by_place : Sp := fun vs H Q _ => ∃ (a : Addr) (n : Nat) (E : List K87.Tie), vs = [.ref a] ∧ Web H a n E ∧ RetP (PbP n E) H Q
theorem ok_pairs_by_place (D : DefAt K mg "pairs_by_place" s_pairs_by_place ["web"]) (T : Txt mg) : At P w K mg base 1 "pairs_by_place" ["web"] sp_pairs_by_place := D.at fun f fd F => by
  refine F.ok sc_pairs_by_place (fun vs H Q E h => ?_) (fun cdv A outer s H vs Q E hr h => ?_)
  · obtain ⟨a, n, E, rfl, _⟩ := h
    rfl
  · obtain ⟨a, n, E, rfl, W, k⟩ := h
    obtain ⟨b, ts, C⟩ := W.at_
    refine ⟨_, (pss_cons (ps_setLc (i := 1) (own := [("place", 5)]) rfl sc_pairs_by_place.nd rfl rfl (sw_true rfl rfl rfl (by decide +kernel)) (pi_range1 rfl T.range (pa_cons (pe_ix ix_tup (pv 0) pe_int (fun _ _ => rfl)) pa_nil)) (blkOk_by (own := [("place", 5)]) (N := n_pairs_by_place) (sc := defScope s_pairs_by_place) (by decide +kernel)) (fun _ _ _ _ _ => (pg_name (i := 5) sc_pairs_by_place.nd rfl (Or.inl rfl))) (fun _ _ _ _ _ => pts_nil) (fun _ _ _ _ _ => (pe_lst pa_nil)))
      (pss_cons (ps_for PassesOwn.never rfl (pi_enumT (by rfl) T.enumerate (pa_cons (pe_ix ix_tup (pv 0) pe_int (fun _ _ => rfl)) pa_nil)) (pg_tup rfl (pgs_cons (pg_name (i := 2) sc_pairs_by_place.nd rfl (Or.inl rfl)) (pgs_cons (pg_tup rfl (pgs_cons (pg_name (i := 3) sc_pairs_by_place.nd rfl (Or.inl rfl)) (pgs_cons (pg_name (i := 4) sc_pairs_by_place.nd rfl (Or.inl rfl)) pgs_nil))) pgs_nil))) (pss_cons (ps_expr (pe_bm PySem.F.plainAttrs_list PySem.F.slot_list_append PySem.F.type_list_append mt_append (pe_ix ix_list (pv 1) (pv 3) (fun _ _ => rfl)) (pa_cons (pe_tup (pa_cons (pv 2) (pa_cons (pv 4) pa_nil))) pa_nil)))
      (pss_one (ps_expr (pe_bm PySem.F.plainAttrs_list PySem.F.slot_list_append PySem.F.type_list_append mt_append (pe_ix ix_list (pv 1) (pv 4) (fun _ _ => rfl)) (pa_cons (pe_tup (pa_cons (pv 2) (pa_cons (pv 3) pa_nil))) pa_nil))))))
      (pss_one (ps_ret (pv 1))))), ?_⟩
    refine q_asgP (ep_lists (ea_cons (ev_n C (ev_var rfl)) ea_nil) (by have := W.ln; omega) (fun _ => rfl)) fun v H1 e hv => ?_
    obtain ⟨l, as, rfl, hlen, L, hfl, hfa⟩ := hv
    refine q_forET (ea_cons (ev_ts (C.ex e) (ev_var rfl)) ea_nil) (e _ _ C.ties) (fun i σ' H' => Ex H H' ∧ Near H' l as n E (upTo E i) ∧ (∀ (p : Nat) (c : Addr), as[p]? = some c → ∃ xs, H' c = some (.lst xs) ∧ xs.length ≤ i) ∧ ∃ x2 x3 x4, σ' = [some (.ref a), some (.ref l), x2, x3, x4, none]) (fun H2 e2 => ⟨e.trans e2, ⟨hlen, fun _ => [], L.ex e2, fun p _ => ⟨rfl, fun j q z => by simp at z⟩⟩, fun p a ha => ⟨[], e2 _ _ (L.row p a ha), Nat.le_refl _⟩, _, _, _, rfl⟩) (fun i σ' H' _ p => p.1 _ _ C.ties) (fun i x T σ' H' hx p hT => ?_) fun σ' H' p => ?_
    · obtain ⟨p1, N1, Z1, x2, x3, x4, rfl⟩ := p
      have hi : i < E.length := by rw [← C.len, ← List.length_map (f := V.ref)]; exact (List.getElem?_eq_some_iff.mp hx).1
      obtain ⟨q, z1, z2, z3⟩ := C.tie_at hi
      rw [hx] at z2
      cases z2
      have e1 := Ex.new (o := .tup [.int (i : Int), .ref q]) hT
      refine g_pairG upd_same (g_pair (e1 _ _ (p1 _ _ z3)) ⟨rfl, ?_⟩)
      have ho := W.ok _ (K87.tieN_mem hi)
      have hle := W.le
      have N2 := N1.ex e1
      have hlen1 := N1.1
      obtain ⟨a1, y1⟩ : ∃ a1, as[(K87.tieN E i).1]? = some a1 := ⟨as[(K87.tieN E i).1], List.getElem?_eq_getElem _⟩
      obtain ⟨a2, y2⟩ : ∃ a2, as[(K87.tieN E i).2]? = some a2 := ⟨as[(K87.tieN E i).2], List.getElem?_eq_getElem _⟩
      obtain ⟨xs1, hx1, hl1⟩ := Z1 _ _ y1
      obtain ⟨xs2, hx2, hl2⟩ := Z1 _ _ y2
      have na : a1 ≠ a2 := fun z => by
        obtain ⟨_, qs, L1, _⟩ := N1
        rw [← z] at y2
        obtain ⟨g1, k1⟩ := List.getElem?_eq_some_iff.mp y1
        obtain ⟨g2, k2⟩ := List.getElem?_eq_some_iff.mp y2
        have := (List.getElem_inj L1.nd).mp (k1.trans k2.symm)
        omega
      have f1 : K87.far (K87.tieN E i) (K87.tieN E i).1 = (K87.tieN E i).2 := by unfold K87.far; rw [if_pos rfl]
      have f2 : K87.far (K87.tieN E i) (K87.tieN E i).2 = (K87.tieN E i).1 := by unfold K87.far; rw [if_neg (by omega)]
      refine q_appU (e1 _ _ hx1) (by obtain ⟨_, qs, L2', _⟩ := N2; exact ev_row L2' (ev_var rfl) (ev_var rfl) y1) (eu_tup2 (ev_var rfl) (ev_var rfl)) (by omega) fun q1 H3 hq1 e3 h3 => ?_
      have N3 := (N2.ex e3).put (t := i) y1 (e3 _ _ (e1 _ _ hx1)) (by rw [f1]; exact h3)
      have hx2' : (upd H3 a1 (.lst (xs1 ++ [.ref q1]))) a2 = some (.lst xs2) := by rw [upd_ne (Ne.symm na)]; exact e3 _ _ (e1 _ _ hx2)
      have hm1 : Ex H (upd H3 a1 (.lst (xs1 ++ [.ref q1]))) := Ex.mut ((p1.trans e1).trans e3) (hfa _ (List.mem_of_getElem? y1))
      have ha1 : (upd H3 a1 (.lst (xs1 ++ [.ref q1]))) a1 = some (.lst (xs1 ++ [.ref q1])) := upd_same
      have oth : ∀ (p : Nat) (c : Addr), as[p]? = some c → c ≠ a1 → (upd H3 a1 (.lst (xs1 ++ [.ref q1]))) c = H3 c := fun p c hc ne => upd_ne ne
      generalize upd H3 a1 (.lst (xs1 ++ [.ref q1])) = G3 at N3 hx2' hm1 ha1 oth ⊢
      refine s_appU hx2' (by obtain ⟨_, qs, L2', _⟩ := N3; exact ev_row L2' (ev_var rfl) (ev_var rfl) y2) (eu_tup2 (ev_var rfl) (ev_var rfl)) (by omega) fun q2 H4 hq2 e4 h4 => ?_
      have N4 := (N3.ex e4).put (t := i) y2 (e4 _ _ hx2') (by rw [f2]; exact h4)
      have t1 : K87.touch (K87.tieN E i) (K87.tieN E i).1 = true := K87.touch_iff.mpr (.inl rfl)
      have t2 : K87.touch (K87.tieN E i) (K87.tieN E i).2 = true := K87.touch_iff.mpr (.inr rfl)
      refine ⟨Ex.mut (hm1.trans e4) (hfa _ (List.mem_of_getElem? y2)), N4.congr fun p hp => ?_, fun p c hc => ?_, _, _, _, rfl⟩
      · unfold K87.setf
        by_cases hb : p = (K87.tieN E i).2
        · subst hb
          rw [if_pos rfl, if_neg (by omega), upTo_succ, if_pos t2]
        · rw [if_neg hb]
          by_cases ha : p = (K87.tieN E i).1
          · subst ha
            rw [if_pos rfl, upTo_succ, if_pos t1]
          · rw [if_neg ha, upTo_succ, if_neg (fun z => (K87.touch_iff.mp z).elim (fun z => ha z.symm) (fun z => hb z.symm)), List.append_nil]
      · by_cases h2 : c = a2
        · rw [h2, upd_same]
          exact ⟨_, rfl, by rw [List.length_append]; show xs2.length + 1 ≤ _; omega⟩
        · rw [upd_ne h2]
          by_cases h1 : c = a1
          · rw [h1]
            exact ⟨_, e4 _ _ ha1, by rw [List.length_append]; show xs1.length + 1 ≤ _; omega⟩
          · obtain ⟨xs, g1, g2⟩ := Z1 p c hc
            exact ⟨xs, e4 _ _ (by rw [oth p c hc h1]; exact e3 _ _ (e1 _ _ g1)), by omega⟩
    · obtain ⟨p1, N1, Z1, x2, x3, x4, rfl⟩ := p
      refine s_ret (ev_var rfl) fun H2 e2 => k _ H2 (p1.trans e2) ⟨l, as, rfl, (N1.ex e2).congr fun p _ => ?_⟩
      rw [List.length_map, C.len]
      rfl
/-! the object -/
structure PrK (K : PySem.W.Frag) (C : Addr) : Prop where
  cls : Cls K C
  web : NoAttr K C "web"
  near : NoAttr K C "near"
  taken : NoAttr K C "taken"
def prF (a nl tl : Addr) : List (Str × V) := [("web", .ref a), ("near", .ref nl), ("taken", .ref tl)]
def oV : Option Nat → V
  | none => .non
  | some t => .int (t : Int)
def optL (n : Nat) (f : Nat → Option Nat) : List V := (List.range n).map fun p => oV (f p)
theorem optL_len {n : Nat} {f : Nat → Option Nat} : (optL n f).length = n := by unfold optL; rw [List.length_map, List.length_range]
theorem optL_get {n p : Nat} {f : Nat → Option Nat} (h : p < n) : (optL n f)[p]? = some (oV (f p)) := by
  unfold optL
  rw [List.getElem?_map, List.getElem?_range h]
  rfl
theorem optL_set {n p : Nat} {f : Nat → Option Nat} {v : Option Nat} : (optL n f).set p (oV v) = optL n (K87.setf f p v) := by
  apply List.ext_getElem?
  intro i
  by_cases hi : i < n
  · by_cases hip : i = p
    · subst hip
      rw [List.getElem?_set_self (by rw [optL_len]; exact hi), optL_get hi, K87.setf_same]
    · rw [List.getElem?_set_ne (Ne.symm hip), optL_get hi, optL_get hi, K87.setf_ne hip]
  · rw [List.getElem?_eq_none (by rw [List.length_set, optL_len]; omega), List.getElem?_eq_none (by rw [optL_len]; omega)]
structure Pr (C : Addr) (H : Hp) (x a nl tl : Addr) (as : List Addr) (n : Nat) (E : List K87.Tie) (tk : Nat → Option Nat) : Prop where
  obj : ∃ dx, H x = some (.ins C dx (prF a nl tl))
  web : Web H a n E
  near : Near H nl as n E (K87.tiesAt E)
  taken : H tl = some (.lst (optL n tk))
  ne : tl ≠ nl
  out : tl ∉ as
theorem Pr.ex {C : Addr} {H H' : Hp} {x a nl tl : Addr} {as : List Addr} {n : Nat} {E : List K87.Tie} {tk : Nat → Option Nat} (O : Pr C H x a nl tl as n E tk) (e : Ex H H') : Pr C H' x a nl tl as n E tk :=
  ⟨let ⟨dx, h⟩ := O.obj; ⟨dx, e _ _ h⟩, O.web.ex e, O.near.ex e, e _ _ O.taken, O.ne, O.out⟩
/-- what is taken may change -/
theorem Pr.set {C : Addr} {H : Hp} {x a nl tl : Addr} {as : List Addr} {n : Nat} {E : List K87.Tie} {tk tk' : Nat → Option Nat} (O : Pr C H x a nl tl as n E tk) : Pr C (upd H tl (.lst (optL n tk'))) x a nl tl as n E tk' := by
  obtain ⟨dx, ho⟩ := O.obj
  obtain ⟨b, ts, W⟩ := O.web.at_
  have ne : ∀ {u : Addr} {o : HO}, H u = some o → o ≠ .lst (optL n tk) → u ≠ tl := fun hu h z => by
    rw [z, O.taken] at hu
    exact h (Option.some.inj hu).symm
  exact ⟨⟨dx, by rw [upd_ne (ne ho (fun z => by cases z))]; exact ho⟩, ⟨⟨b, ts, by rw [upd_ne (ne W.top (fun z => by cases z))]; exact W.top, by rw [upd_ne (ne W.ties (fun z => by cases z))]; exact W.ties, W.len, fun i t h => by rw [upd_ne (ne (W.tie i t h) (fun z => by cases z))]; exact W.tie i t h⟩, O.web.ok, O.web.ln, O.web.le⟩, O.near.mut O.ne O.out O.taken (fun _ z => by cases z), upd_same, O.ne, O.out⟩
/-- a dict may change -/
theorem Pr.mut {C : Addr} {H : Hp} {x a nl tl c : Addr} {as : List Addr} {n : Nat} {E : List K87.Tie} {tk : Nat → Option Nat} {kvs : List (Key × V)} {o : HO} (O : Pr C H x a nl tl as n E tk) (h : H c = some (.dK kvs)) : Pr C (upd H c o) x a nl tl as n E tk := by
  obtain ⟨dx, ho⟩ := O.obj
  obtain ⟨b, ts, W⟩ := O.web.at_
  obtain ⟨hl, qs, L, r⟩ := O.near
  have ne : ∀ {u : Addr} {o : HO}, H u = some o → o ≠ .dK kvs → u ≠ c := fun hu h' z => by
    rw [z, h] at hu
    exact h' (Option.some.inj hu).symm
  exact ⟨⟨dx, by rw [upd_ne (ne ho (fun z => by cases z))]; exact ho⟩, ⟨⟨b, ts, by rw [upd_ne (ne W.top (fun z => by cases z))]; exact W.top, by rw [upd_ne (ne W.ties (fun z => by cases z))]; exact W.ties, W.len, fun i t h => by rw [upd_ne (ne (W.tie i t h) (fun z => by cases z))]; exact W.tie i t h⟩, O.web.ok, O.web.ln, O.web.le⟩,
    ⟨hl, qs, L.mut (Ne.symm (ne L.top (fun z => by cases z))) (fun z => by
      obtain ⟨j, hj, ej⟩ := List.mem_iff_getElem.mp z
      exact ne (L.row j c (by rw [List.getElem?_eq_getElem hj, ej])) (fun z => by cases z) rfl), fun p hp => (r p hp).ex (TEx.upd h (fun _ z => by cases z))⟩, by rw [upd_ne (ne O.taken (fun z => by cases z))]; exact O.taken, O.ne, O.out⟩
abbrev s_Pairs_init : Stmt := inClass (topS 25) 0
abbrev n_Pairs_init : List Str := ["self", "web"]
theorem sc_Pairs_init : FnScope n_Pairs_init ["self", "web"] (defScope s_Pairs_init) := ⟨rfl, rfl, rfl, by decide +kernel, rfl, by decide +kernel, by decide +kernel⟩
def sp_Pairs_init (C : Addr) : Sp := fun vs H Q _ => ∃ (x dx a : Addr) (n : Nat) (E : List K87.Tie), vs = [.ref x, .ref a] ∧ H x = some (.ins C dx []) ∧ Web H a n E ∧
  ∀ H' nl tl as, FrS [x] H H' → Pr C H' x a nl tl as n E (fun _ => none) → H tl = none → Q .non H'
theorem ok_Pairs_init {C : Addr} (D : MkDef K mg C "Pairs" "Pairs.__init__" s_Pairs_init ["self", "web"]) (G : PrK K C) (A_pairs_by_place : At P w K mg base 1 "pairs_by_place" ["web"] sp_pairs_by_place) : MkAt P w K mg base C 2 "Pairs" ["self", "web"] (sp_Pairs_init C) := D.at fun f fd F => by
  refine F.ok sc_Pairs_init (fun vs H Q E h => ?_) (fun cdv A outer s H vs Q E hr h => ?_)
  · obtain ⟨x, dx, a, n, E, rfl, _⟩ := h
    rfl
  · obtain ⟨x, dx, a, n, E, rfl, hx, W, k⟩ := h
    refine ⟨_, (pss_cons (ps_fld (pv 0) (pv 1) rfl)
      (pss_cons (ps_fld (pv 0) (pe_at A_pairs_by_place (hr.mono (by decide)) (pa_cons (pv 1) pa_nil)) rfl)
      (pss_one (ps_fld (pv 0) (pe_op op_rep (pe_lst (pa_cons pe_non pa_nil)) (pe_ix ix_tup (pv 1) pe_int (fun _ _ => rfl))) rfl)))), ?_⟩
    -- a web where the object at x changes
    have webm : ∀ {H1 : Hp} {fs : List (Str × V)} {o : HO}, H1 x = some (.ins C dx fs) → Web H1 a n E → Web (upd H1 x o) a n E := fun {H1 fs o} h W => by
      obtain ⟨b, ts, C1⟩ := W.at_
      have ne : ∀ {u : Addr} {o : HO}, H1 u = some o → (∀ C' dx' fs, o ≠ .ins C' dx' fs) → u ≠ x := fun hu ho z => by
        rw [z, h] at hu
        exact ho _ _ _ (Option.some.inj hu).symm
      exact ⟨⟨b, ts, by rw [upd_ne (ne C1.top (fun _ _ _ z => by cases z))]; exact C1.top, by rw [upd_ne (ne C1.ties (fun _ _ _ z => by cases z))]; exact C1.ties, C1.len, fun i t h => by rw [upd_ne (ne (C1.tie i t h) (fun _ _ _ z => by cases z))]; exact C1.tie i t h⟩, W.ok, W.ln, W.le⟩
    refine q_fldP (Ev.p (ev_var (v := .ref a) rfl)) rfl hx G.cls G.web (by decide) fun y H1 e1 hy => ?_
    subst hy
    have hx1 : (upd H1 x (.ins C dx (putF "web" (.ref a) []))) x = some (.ins C dx [("web", .ref a)]) := upd_same
    have F1 : FrS [x] H (upd H1 x (.ins C dx (putF "web" (.ref a) []))) := (FrS.of e1).inn (List.mem_singleton_self _)
    have W1 : Web (upd H1 x (.ins C dx (putF "web" (.ref a) []))) a n E := webm (e1 _ _ hx) (W.ex e1)
    generalize upd H1 x (.ins C dx (putF "web" (.ref a) [])) = G1 at hx1 F1 W1 ⊢
    refine q_fldP (ep_call (P := PbP n E) (ea_cons (ev_var rfl) ea_nil) fun H1 e Q _ q => ⟨a, n, E, rfl, W1.ex e, q⟩) rfl hx1 G.cls G.near (show 1 < 1000 by decide) fun y H2 e2 hy => ?_
    obtain ⟨nl, as, rfl, N⟩ := hy
    have nx2 := e2 _ _ hx1
    have N2 : Near (upd H2 x (.ins C dx (putF "near" (.ref nl) [("web", .ref a)]))) nl as n E (K87.tiesAt E) := by
      obtain ⟨hl, qs, L, r⟩ := N
      exact Near.mut ⟨hl, qs, L, r⟩ (ne_of nx2 L.top (fun z => by cases z)) (fun z => by
        obtain ⟨j, hj, ej⟩ := List.mem_iff_getElem.mp z
        exact ne_of nx2 (L.row j x (by rw [List.getElem?_eq_getElem hj, ej])) (fun z => by cases z) rfl) nx2 (fun _ z => by cases z)
    have W2 : Web (upd H2 x (.ins C dx (putF "near" (.ref nl) [("web", .ref a)]))) a n E := webm nx2 (W1.ex e2)
    have hx2 : (upd H2 x (.ins C dx (putF "near" (.ref nl) [("web", .ref a)]))) x = some (.ins C dx [("web", .ref a), ("near", .ref nl)]) := upd_same
    have F2 : FrS [x] H (upd H2 x (.ins C dx (putF "near" (.ref nl) [("web", .ref a)]))) := (F1.ex e2).inn (List.mem_singleton_self _)
    generalize upd H2 x (.ins C dx (putF "near" (.ref nl) [("web", .ref a)])) = G2 at hx2 F2 N2 W2 ⊢
    obtain ⟨b, ts, CW⟩ := W2.at_
    have hln := W.ln
    refine s_fldP (EvL.p (el_rep (n := n) (x := .non) (el_lst (ea_cons ev_c ea_nil) (show 1 ≤ 100000 by decide)) (fun H3 e3 => ev_n (CW.ex e3) (ev_var rfl)) (by omega))) rfl hx2 G.cls G.taken (show 2 < 1000 by decide) fun y H3 e3 hy => ?_
    obtain ⟨tl, rfl, ht0, ht1⟩ := hy
    have nxt : x ≠ tl := ne_of_none hx2 ht0
    have nx3 := e3 _ _ hx2
    have N3 := N2.ex e3
    obtain ⟨hl, qs, L, r⟩ := N2
    refine k _ nl tl as ((F2.ex e3).inn (List.mem_singleton_self _)) ⟨⟨dx, upd_same⟩, webm nx3 (W2.ex e3), ?_, ?_, ?_, ?_⟩ ?_
    · obtain ⟨hl3, qs3, L3, r3⟩ := N3
      exact Near.mut ⟨hl3, qs3, L3, r3⟩ (ne_of nx3 L3.top (fun z => by cases z)) (fun z => by
        obtain ⟨j, hj, ej⟩ := List.mem_iff_getElem.mp z
        exact ne_of nx3 (L3.row j x (by rw [List.getElem?_eq_getElem hj, ej])) (fun z => by cases z) rfl) nx3 (fun _ z => by cases z)
    · rw [upd_ne (Ne.symm nxt), ht1]
      congr 2
      apply List.ext_getElem?
      intro i
      by_cases hi : i < n
      · rw [optL_get hi, List.getElem?_replicate, if_pos hi]; rfl
      · rw [List.getElem?_eq_none (by rw [List.length_replicate]; omega), List.getElem?_eq_none (by rw [optL_len]; omega)]
    · exact Ne.symm (ne_of_none L.top ht0)
    · intro z
      obtain ⟨j, hj, ej⟩ := List.mem_iff_getElem.mp z
      have := L.row j tl (by rw [List.getElem?_eq_getElem hj, ej])
      rw [ht0] at this
      cases this
    · cases h : H tl with
      | none => rfl
      | some o =>
        by_cases hb : tl ∈ [x]
        · exact absurd (List.mem_singleton.mp hb).symm nxt
        · rw [F2 tl o hb h] at ht0
          cases ht0
end
end K87W
/-! pairings.py: what one came by; mate, went_on -/
namespace K87W
open PySem PySem.Spec PyProof.Rows L2 Evl K87X
open K87 (Came Cml ks)
def cV : Came → Addr → V
  | .root, _ => .non
  | .via _ _, q => .ref q
  | .back _, q => .ref q
def CT (H : Hp) : Came → Addr → Prop
  | .root, _ => True
  | .via t h, q => H q = some (.tup [.int (t : Nat), .int (h : Nat)])
  | .back h, q => H q = some (.tup [.non, .int (h : Nat)])
theorem CT.ex {H H' : Hp} (e : TEx H H') : ∀ {c : Came} {q : Addr}, CT H c q → CT H' c q
  | .root, _, _ => trivial
  | .via _ _, _, h => e _ _ h
  | .back _, _, h => e _ _ h
def cmK (l : List (Nat × Came × Addr)) : List (Key × V) := l.map fun e => (.inl (e.1 : Int), cV e.2.1 e.2.2)
structure CmE (H : Hp) (ca : Addr) (cm : Cml) : Prop where
  ex_ : ∃ l : List (Nat × Came × Addr), cm = l.map (fun e => (e.1, e.2.1)) ∧ H ca = some (.dK (cmK l)) ∧ ∀ e ∈ l, CT H e.2.1 e.2.2
theorem cmK_val (p : Nat) : ∀ l : List (Nat × Came × Addr), valV (cmK l) (.inl (p : Int)) = (l.lookup p).map fun e => cV e.1 e.2
  | [] => rfl
  | (q, b) :: r => by
    show valV ((.inl (q : Int), cV b.1 b.2) :: cmK r) _ = _
    by_cases h : p = q
    · subst h
      rw [valV_pos rfl, List.lookup_cons, beq_self_eq_true]
      rfl
    · rw [valV_neg (fun z => h (by injection z with z; omega)), cmK_val p r, List.lookup_cons, show (p == q) = false from beq_false_of_ne h]
theorem ks_map (l : List (Nat × Came × Addr)) : ks (l.map fun e => (e.1, e.2.1)) = l.map (·.1) := by unfold ks; rw [List.map_map]; rfl
theorem CmE.ex {H H' : Hp} {ca : Addr} {cm : Cml} (M : CmE H ca cm) (e : Ex H H') : CmE H' ca cm :=
  let ⟨l, h1, h2, h3⟩ := M.ex_
  ⟨l, h1, e _ _ h2, fun x hx => (h3 x hx).ex (TEx.of e)⟩
theorem CmE.mut {H : Hp} {ca b : Addr} {cm : Cml} {o : HO} {xs : List V} (M : CmE H ca cm) (h : H b = some (.lst xs)) : CmE (upd H b o) ca cm :=
  let ⟨l, h1, h2, h3⟩ := M.ex_
  ⟨l, h1, by rw [upd_ne (fun z => by rw [z, h] at h2; cases h2)]; exact h2, fun x hx => (h3 x hx).ex (TEx.upd h (fun _ z => by cases z))⟩
/-- all that one asks of it -/
theorem CmE.all {H : Hp} {ca : Addr} {cm : Cml} (M : CmE H ca cm) : ∃ kvs, H ca = some (.dK kvs) ∧ kvs.length = cm.length ∧ (∀ p : Nat, (valV kvs (.inl (p : Int))).isSome = decide (p ∈ ks cm)) ∧
    ((ks cm).Nodup → ∀ (p : Nat) c, (p, c) ∈ cm → ∃ q, valV kvs (.inl (p : Int)) = some (cV c q) ∧ CT H c q) ∧ ∀ (p : Nat) (c : Came) (q : Addr), p ∉ ks cm → CT H c q → c ≠ .root → CmE (upd H ca (.dK (putK kvs (.inl (p : Int)) (.ref q)))) ca (cm ++ [(p, c)]) := by
  obtain ⟨l, h1, h2, h3⟩ := M.ex_
  have has : ∀ p : Nat, (valV (cmK l) (.inl (p : Int))).isSome = decide (p ∈ ks cm) := fun p => by
    rw [cmK_val, h1, ks_map]
    cases hq : l.lookup p with
    | none => rw [decide_eq_false (K87.lookup_none.mp hq)]; rfl
    | some z => rw [decide_eq_true (K87.key_of_mem (K87.mem_of_lookup hq))]; rfl
  refine ⟨cmK l, h2, by rw [h1]; unfold cmK; rw [List.length_map, List.length_map], has, fun nd p c hm => ?_, fun p c q hp hc hr => ?_⟩
  · rw [h1, ks_map] at nd
    rw [h1] at hm
    obtain ⟨e, he, ee⟩ := List.mem_map.mp hm
    obtain ⟨p', c', q⟩ := e
    cases ee
    refine ⟨q, by rw [cmK_val, K87.lookup_of_mem nd he]; rfl, h3 _ he⟩
  · have hn : valV (cmK l) (.inl (p : Int)) = none := by
      have := has p
      rw [decide_eq_false hp] at this
      exact Option.not_isSome_iff_eq_none.mp (by rw [this]; decide)
    have te : TEx H (upd H ca (.dK (putK (cmK l) (.inl (p : Int)) (.ref q)))) := TEx.upd h2 (fun _ z => by cases z)
    refine ⟨l ++ [(p, c, q)], by rw [List.map_append, h1]; rfl, ?_, fun e he => ?_⟩
    · rw [upd_same, putK_new _ hn]
      unfold cmK
      rw [List.map_append]
      congr 3
      show [_] = [_]
      congr 2
      cases c with
      | root => exact absurd rfl hr
      | via t h => rfl
      | back h => rfl
    · rcases List.mem_append.mp he with z | z
      · exact (h3 e z).ex te
      · rw [List.mem_singleton.mp z]
        exact hc.ex te
theorem Pr.fr {C : Addr} {H H' : Hp} {x a nl tl : Addr} {as : List Addr} {n : Nat} {E : List K87.Tie} {tk : Nat → Option Nat} {S : List Addr} (O : Pr C H x a nl tl as n E tk) (f : FrS S H H') (hS : ∀ b ∈ S, ∃ k, H b = some (.dK k)) : Pr C H' x a nl tl as n E tk := by
  have nd : ∀ {u : Addr} {o : HO}, H u = some o → (∀ k, o ≠ .dK k) → u ∉ S := fun hu ho z => by
    obtain ⟨k, hk⟩ := hS _ z
    rw [hk] at hu
    exact ho k (Option.some.inj hu).symm
  obtain ⟨dx, ho⟩ := O.obj
  obtain ⟨b, ts, W⟩ := O.web.at_
  obtain ⟨hl, qs, L, r⟩ := O.near
  exact ⟨⟨dx, f _ _ (nd ho (fun _ z => by cases z)) ho⟩, ⟨⟨b, ts, f _ _ (nd W.top (fun _ z => by cases z)) W.top, f _ _ (nd W.ties (fun _ z => by cases z)) W.ties, W.len, fun i t h => f _ _ (nd (W.tie i t h) (fun _ z => by cases z)) (W.tie i t h)⟩, O.web.ok, O.web.ln, O.web.le⟩,
    ⟨hl, qs, ⟨f _ _ (nd L.top (fun _ z => by cases z)) L.top, fun i u hu => f _ _ (nd (L.row i u hu) (fun _ z => by cases z)) (L.row i u hu), L.nd, L.out⟩, fun p hp => (r p hp).ex (TEx.fr f fun b hb ys z => by
      obtain ⟨k, hk⟩ := hS b hb
      rw [hk] at z
      cases z)⟩, f _ _ (nd O.taken (fun _ z => by cases z)) O.taken, O.ne, O.out⟩
theorem inV_natL (m : Nat) : ∀ l : List Nat, inV (.int (m : Int)) (natL l) = decide (m ∈ l)
  | [] => rfl
  | a :: l => by
    show (((a : Int) == (m : Int)) || inV (.int (m : Int)) (natL l)) = _
    rw [inV_natL m l, beq_cast, Bool.eq_iff_iff]
    rw [Bool.or_eq_true, beq_iff_eq, decide_eq_true_eq, decide_eq_true_eq, List.mem_cons]
    exact ⟨fun h => h.imp (fun z => z.symm) id, fun h => h.imp (fun z => z.symm) id⟩
theorem natL_flat (l : List Nat) : (natL l).all flatV = true := by
  rw [List.all_eq_true]
  intro x hx
  obtain ⟨t, _, rfl⟩ := List.mem_map.mp hx
  rfl
theorem oV_non (o : Option Nat) : decide (oV o = .non) = o.isNone := by
  cases o with
  | none => rfl
  | some t => rfl
section
variable {P : Program} {w : World} {K : PySem.W.Frag} {mg : Str → Option Value} {base : Heap}
section
variable {C : Addr} {H : Hp} {σ : L2.St} {x a nl tl : Addr} {as : List Addr} {n : Nat} {E : List K87.Tie} {tk : Nat → Option Nat} {j : Nat}
theorem ev_pweb (G : PrK K C) (O : Pr C H x a nl tl as n E tk) (h : σ[j]? = some (some (.ref x))) : Ev (tFld K (tVar j) "web") σ H (.ref a) := by
  obtain ⟨dx, ho⟩ := O.obj
  exact ev_fld (ev_var h) ho G.cls G.web rfl
theorem ev_pnear (G : PrK K C) (O : Pr C H x a nl tl as n E tk) (h : σ[j]? = some (some (.ref x))) : Ev (tFld K (tVar j) "near") σ H (.ref nl) := by
  obtain ⟨dx, ho⟩ := O.obj
  exact ev_fld (ev_var h) ho G.cls G.near rfl
theorem ev_ptl (G : PrK K C) (O : Pr C H x a nl tl as n E tk) (h : σ[j]? = some (some (.ref x))) : Ev (tFld K (tVar j) "taken") σ H (.ref tl) := by
  obtain ⟨dx, ho⟩ := O.obj
  exact ev_fld (ev_var h) ho G.cls G.taken rfl
theorem ev_ptk {p : Nat} {tb : TE} (G : PrK K C) (O : Pr C H x a nl tl as n E tk) (h : σ[j]? = some (some (.ref x))) (hp : Ev tb σ H (.int (p : Int))) (hn : p < n) : Ev (tOp (rIxL K) (tFld K (tVar j) "taken") tb) σ H (oV (tk p)) :=
  ev_op (ev_ptl G O h) hp (rv_ixL (sq_of O.taken) (atI_nat (optL_get hn)))
end
abbrev s_Pairs_mate : Stmt := inClass (topS 25) 1
abbrev n_Pairs_mate : List Str := ["self", "place", "one", "other"]
theorem sc_Pairs_mate : FnScope n_Pairs_mate ["self", "place"] (defScope s_Pairs_mate) := ⟨rfl, rfl, rfl, by decide +kernel, rfl, by decide +kernel, by decide +kernel⟩
def sp_mate (C : Addr) : Sp := fun vs H Q _ => ∃ (x a nl tl : Addr) (as : List Addr) (n p t : Nat) (E : List K87.Tie) (tk : Nat → Option Nat), vs = [.ref x, .int p] ∧ Pr C H x a nl tl as n E tk ∧ p < n ∧ tk p = some t ∧ t < E.length ∧ K87.touch (K87.tieN E t) p = true ∧ RetV (.int (K87.far (K87.tieN E t) p : Nat)) H Q
theorem ok_mate {C : Addr} (D : MetDef K C "mate" "Pairs.mate" s_Pairs_mate ["self", "place"]) (G : PrK K C) : MetAt P w K mg base C 1 "mate" ["self", "place"] (sp_mate C) := D.at fun f fd F => by
  refine F.ok sc_Pairs_mate (fun vs H Q E h => ?_) (fun cdv A outer s H vs Q E hr h => ?_)
  · obtain ⟨x, a, nl, tl, as, n, p, t, E, tk, rfl, _⟩ := h
    rfl
  · obtain ⟨x, a, nl, tl, as, n, p, t, E, tk, rfl, O, hp, htk, ht, htp, k⟩ := h
    refine ⟨_, (pss_cons (ps_asg (pe_ix ix_tup (pe_ix ix_tup (pe_fld (pv 0) rfl) pe_int (fun _ _ => rfl)) (pe_ix ix_list (pe_fld (pv 0) rfl) (pv 1) (fun _ _ => rfl)) (fun _ _ => rfl)) (pg_tup rfl (pgs_cons (pg_name (i := 2) sc_Pairs_mate.nd rfl (Or.inl rfl)) (pgs_cons (pg_name (i := 3) sc_Pairs_mate.nd rfl (Or.inl rfl)) pgs_nil))))
      (pss_one (ps_ret (pe_op op_sub (pe_op op_add (pv 2) (pv 3)) (pv 1))))), ?_⟩
    obtain ⟨b, ts, CW⟩ := O.web.at_
    obtain ⟨q, z1, z2, z3⟩ := CW.tie_at ht
    refine q_asgG (ev_tie CW (ev_pweb G O rfl) (ev_is (ev_ptk G O rfl (ev_var rfl) hp) (by rw [htk]; rfl)) z1) fun H1 e1 => g_pair (e1 _ _ z3) ?_
    exact s_ret (ev_is (ev_op (ev_op (ev_var rfl) (ev_var rfl) rv_I0) (ev_var rfl) rv_I0) (by
      have := K87.far_sum htp
      exact congrArg V.int (by omega))) fun H2 e2 => k H2 (e1.trans e2)
def EndOk (tk : Nat → Option Nat) (lt : List Nat) (cm : Cml) (e : Nat) : Prop := ((∃ t h, (e, Came.via t h) ∈ cm) ∧ tk e = none) ∨ ((∃ h, (e, Came.back h) ∈ cm) ∧ e ∈ lt)
abbrev s_Pairs_went_on : Stmt := inClass (topS 25) 2
abbrev n_Pairs_went_on : List Str := ["self", "here", "came", "let", "further", "tie", "there", "mate"]
theorem sc_Pairs_went_on : FnScope n_Pairs_went_on ["self", "here", "came", "let"] (defScope s_Pairs_went_on) := ⟨rfl, rfl, rfl, by decide +kernel, rfl, by decide +kernel, by decide +kernel⟩
def Went (n : Nat) (E : List K87.Tie) (s : Nat → Bool) (tk : Nat → Option Nat) (r : Nat) (lt : List Nat) (ca : Addr) (wt : List Nat) (m : Nat) : V → Hp → Prop := fun v H' => ∃ q fu, v = .ref q ∧ ((∃ e cm' rk', H' q = some (.tup [.ref fu, .int ((e : Nat) : Int)]) ∧ CmE H' ca cm' ∧ K87.CmOk n E s tk r rk' cm' ∧ EndOk tk lt cm' e) ∨
  (∃ fl cm' rk', H' q = some (.tup [.ref fu, .non]) ∧ H' fu = some (.lst (natL fl)) ∧ CmE H' ca cm' ∧ K87.Bfs n E s tk r lt rk' cm' (wt ++ fl) [] ∧ cm'.length = m + 2 * fl.length))
def sp_went_on (C : Addr) : Sp := fun vs H Q _ => ∃ (x a nl tl ca la : Addr) (as : List Addr) (n h r : Nat) (E : List K87.Tie) (tk : Nat → Option Nat) (s : Nat → Bool) (lt wt : List Nat) (rk : Nat → Nat) (cm : Cml), vs = [.ref x, .int h, .ref ca, .ref la] ∧ Pr C H x a nl tl as n E tk ∧ CmE H ca cm ∧ H la = some (.lst (natL lt)) ∧ lt.length ≤ 1000 ∧
  K87.Bfs n E s tk r lt rk cm wt [h] ∧ h ∈ ks cm ∧ s h = s r ∧ K87.Mat n E tk ∧ K87.Two E s ∧ ∀ v H', FrS [ca] H H' → Went n E s tk r lt ca wt cm.length v H' → Q v H'
theorem ok_went_on {C : Addr} (D : MetDef K C "went_on" "Pairs.went_on" s_Pairs_went_on ["self", "here", "came", "let"]) (T : Txt mg) (G : PrK K C) (A_mate : MetAt P w K mg base C 1 "mate" ["self", "place"] (sp_mate C)) : MetAt P w K mg base C 2 "went_on" ["self", "here", "came", "let"] (sp_went_on C) := D.at fun f fd F => by
  refine F.ok sc_Pairs_went_on (fun vs H Q E h => ?_) (fun cdv A outer s H vs Q E hr h => ?_)
  · obtain ⟨x, a, nl, tl, ca, la, as, n, h, r, E, tk, s, lt, wt, rk, cm, rfl, _⟩ := h
    rfl
  · obtain ⟨x, a, nl, tl, ca, la, as, n, h, r, E, tk, sd, lt, wt, rk, cm, rfl, O, M, hla, hlt, B, hh, hs, mat, two, k⟩ := h
    have C_mate := G.cls
    refine ⟨_, (pss_cons (ps_set (i := 4) sc_Pairs_went_on.nd rfl (Or.inl rfl) (pe_lst pa_nil))
      (pss_cons (ps_for PassesOwn.never rfl (pi_list (pe_ix ix_list (pe_fld (pv 0) rfl) (pv 1) (fun _ _ => rfl))) (pg_tup rfl (pgs_cons (pg_name (i := 5) sc_Pairs_went_on.nd rfl (Or.inl rfl)) (pgs_cons (pg_name (i := 6) sc_Pairs_went_on.nd rfl (Or.inl rfl)) pgs_nil))) (pss_cons (ps_if (pt_cmp (pc_din (hu_of hr) (pv 6) (pv 2))) (pss_one ps_continue) pss_nil)
      (pss_cons (ps_dput (hu_of hr) (pv 2) (pv 6) (pe_tup (pa_cons (pv 5) (pa_cons (pv 1) pa_nil))) rfl)
      (pss_cons (ps_if (pt_cmpR op_isN (pe_ix ix_list (pe_fld (pv 0) rfl) (pv 6) (fun _ _ => rfl)) pe_non (nomark _)) (pss_one (ps_ret (pe_tup (pa_cons (pv 4) (pa_cons (pv 6) pa_nil))))) pss_nil)
      (pss_cons (ps_set (i := 7) sc_Pairs_went_on.nd rfl (Or.inl rfl) (pe_metat C_mate A_mate (pv 0) (hr.mono (by decide)) (pa_cons (pv 6) pa_nil)))
      (pss_cons (ps_dput (hu_of hr) (pv 2) (pv 7) (pe_tup (pa_cons pe_non (pa_cons (pv 6) pa_nil))) rfl)
      (pss_cons (ps_if (pt_cmpR op_in_seq (pv 7) (pv 3) (by rfl)) (pss_one (ps_ret (pe_tup (pa_cons (pv 4) (pa_cons (pv 7) pa_nil))))) pss_nil)
      (pss_one (ps_expr (pe_bm PySem.F.plainAttrs_list PySem.F.slot_list_append PySem.F.type_list_append mt_append (pv 4) (pa_cons (pv 7) pa_nil)))))))))))
      (pss_one (ps_ret (pe_tup (pa_cons (pv 4) (pa_cons pe_non pa_nil))))))), ?_⟩
    obtain ⟨kv0, hca, _⟩ := M.all
    have hS : ∀ b ∈ [ca], ∃ k, H b = some (.dK k) := fun b hb => ⟨kv0, by rw [List.mem_singleton.mp hb]; exact hca⟩
    have lac : la ∉ [ca] := fun z => by rw [List.mem_singleton.mp z, hca] at hla; cases hla
    have hln := O.web.ln
    refine q_asgL (el_lst ea_nil (show 0 ≤ 100000 by decide)) fun fu H1 hfu e1 h1 => ?_
    have hhn := B.c.lt h hh
    obtain ⟨hlen, qs, L, rows⟩ := O.near
    obtain ⟨ra, y1, y2, y3⟩ := L.at (i := h) (by rw [hlen]; exact hhn)
    have R := rows h hhn
    have O1 := O.ex e1
    have rac : ra ∉ [ca] := fun z => by rw [List.mem_singleton.mp z, hca] at y3; cases y3
    refine q_forL (ev_row (L.ex e1) (ev_pnear G O1 rfl) (ev_var rfl) y1) (sq_of (e1 _ _ y3)) (fun i σ' H' => ∃ cm' rk' fl, FrS [ca] H H' ∧ CmE H' ca cm' ∧ H' fu = some (.lst (natL fl)) ∧ K87.Bfs n E sd tk r lt rk' cm' (wt ++ fl) [h] ∧ h ∈ ks cm' ∧ cm'.length = cm.length + 2 * fl.length ∧
      (∀ j, j < i → j < (K87.tiesAt E h).length → K87.far (K87.tieN E ((K87.tiesAt E h).getD j 0)) h ∈ ks cm') ∧ ∃ x5 x6 x7, σ' = [some (.ref x), some (.int (h : Int)), some (.ref ca), some (.ref la), some (.ref fu), x5, x6, x7])
      (fun H2 e2 => ⟨cm, rk, [], FrS.of (e1.trans e2), M.ex (e1.trans e2), e2 _ _ h1, by rw [List.append_nil]; exact B, hh, by simp, fun j hj => absurd hj (Nat.not_lt_zero _), _, _, _, rfl⟩) (fun i σ' H' _ p => ?_) (fun i v σ' H' hx p => ?_) fun σ' H' p => ?_
    · obtain ⟨cm', rk', fl, p1, _⟩ := p
      exact sq_of (p1 _ _ rac y3)
    · obtain ⟨cm', rk', fl, F1, M1, hf1, B1, hh1, hl1, hj1, x5, x6, x7, rfl⟩ := p
      have hi : i < (qs h).length := by rw [← List.length_map (f := V.ref)]; exact (List.getElem?_eq_some_iff.mp hx).1
      have hiT : i < (K87.tiesAt E h).length := by rw [← R.len]; exact hi
      obtain ⟨q, hq⟩ : ∃ q, (qs h)[i]? = some q := ⟨_, List.getElem?_eq_getElem hi⟩
      rw [List.getElem?_map, hq] at hx
      cases hx
      have hqt := R.at_ i q hq
      have htm := getD_mem' hiT
      generalize ht : (K87.tiesAt E h).getD i 0 = t at htm hqt ⊢
      obtain ⟨htl, hth⟩ := K87.mem_tiesAt.mp htm
      have qc : q ∉ [ca] := fun z => by rw [List.mem_singleton.mp z, hca] at hqt; cases hqt
      refine g_pair (F1 _ _ qc hqt) ?_
      obtain ⟨kvs, k1, k2, k3, k4, k5⟩ := M1.all
      have b1 := B1.len
      refine q_when (et_din (k := .inl ((K87.far (K87.tieN E t) h : Nat) : Int)) (ev_var rfl) (ev_var rfl) k1) (fun hb H2 e2 => ?_) (fun hb H2 e2 => ?_)
      · rw [k3, decide_eq_true_eq] at hb
        refine ⟨cm', rk', fl, F1.ex e2, M1.ex e2, e2 _ _ hf1, B1, hh1, hl1, fun j hj hjl => ?_, _, _, _, rfl⟩
        by_cases hji : j = i
        · subst hji
          rw [ht]
          exact hb
        · exact hj1 j (by omega) hjl
      · rw [k3] at hb
        have hnew := of_decide_eq_false hb
        have hfn := K87.far_lt O.web.ok (p := h) htl
        refine q_dputU (k := .inl ((K87.far (K87.tieN E t) h : Nat) : Int)) (eu_tup2 (ev_var rfl) (ev_var rfl)) (ev_var rfl) (ev_var rfl) (e2 _ _ k1) (by omega) fun pt H3 hpt e3 h3 => ?_
        obtain ⟨kvs', k1', _, _, _, k5'⟩ := ((M1.ex e2).ex e3).all
        have ek : kvs' = kvs := by
          rw [e3 _ _ (e2 _ _ k1)] at k1'
          injection k1' with z
          injection z with z
          exact z.symm
        rw [ek] at k5'
        have M3 := k5' _ (.via t h) pt hnew h3 (fun z => by cases z)
        have F3 : FrS [ca] H (upd H3 ca (.dK (putK kvs (.inl ((K87.far (K87.tieN E t) h : Nat) : Int)) (.ref pt)))) := ((F1.ex e2).ex e3).inn (List.mem_singleton_self _)
        have f3 : (upd H3 ca (.dK (putK kvs (.inl ((K87.far (K87.tieN E t) h : Nat) : Int)) (.ref pt)))) fu = some (.lst (natL fl)) := by
          rw [upd_ne (fun z => by rw [z, k1] at hf1; cases hf1)]
          exact e3 _ _ (e2 _ _ hf1)
        generalize upd H3 ca (.dK (putK kvs (.inl ((K87.far (K87.tieN E t) h : Nat) : Int)) (.ref pt))) = G3 at M3 F3 f3 ⊢
        have O3 := O.fr F3 hS
        refine q_when (b := (tk (K87.far (K87.tieN E t) h)).isNone) (et_isN (ev_ptk G O3 rfl (ev_var rfl) hfn) (oV_non _)) (fun hb2 H4 e4 => ?_) (fun hb2 H4 e4 => ?_)
        · have hno : tk (K87.far (K87.tieN E t) h) = none := Option.isNone_iff_eq_none.mp hb2
          refine s_retU (eu_tup2 (ev_var rfl) (ev_var rfl)) fun q' H5 hq' e5 h5 => ?_
          refine k _ H5 ((F3.ex e4).ex e5) ⟨q', fu, rfl, .inl ⟨_, _, _, h5, (M3.ex e4).ex e5, B1.c.via O.web.ok htl hth hh1 hs hnew, .inl ⟨⟨t, h, List.mem_append_right _ (List.mem_singleton_self _)⟩, hno⟩⟩⟩
        · obtain ⟨tq, htq⟩ : ∃ tq, tk (K87.far (K87.tieN E t) h) = some tq := by
            cases hz : tk (K87.far (K87.tieN E t) h) with
            | none => rw [hz] at hb2; cases hb2
            | some z => exact ⟨z, rfl⟩
          obtain ⟨m1, m2, m3⟩ := mat _ _ hfn htq
          obtain ⟨rk2, C2, hB, hs2⟩ := B1.more O.web.ok two mat hh1 hs htl hth hnew htq
          have O4 := O3.ex e4
          obtain ⟨dx, ho4⟩ := O4.obj
          refine q_meth rfl ho4 rfl (ea_cons (ev_var rfl) ea_nil) fun H5 e5 => ?_
          refine ⟨x, a, nl, tl, as, n, _, tq, E, tk, rfl, O4.ex e5, hfn, htq, m1, m2, fun H6 e6 => ?_⟩
          have M6 := ((M3.ex e4).ex e5).ex e6
          obtain ⟨kv6, g1, g2, g3, g4, g5⟩ := M6.all
          have nd2 := C2.nd
          unfold K87.cm2 at nd2
          rw [K87.ks_snoc] at nd2
          have hmn : K87.far (K87.tieN E tq) (K87.far (K87.tieN E t) h) ∉ ks (cm' ++ [(K87.far (K87.tieN E t) h, .via t h)]) := fun z => (List.nodup_append.mp nd2).2.2 _ z _ (List.mem_singleton_self _) rfl
          have c2l : (ks (cm' ++ [(K87.far (K87.tieN E t) h, Came.via t h)])).length ≤ n := K87.len_le_range (List.nodup_append.mp nd2).1 (fun p hp => C2.lt p (by unfold K87.cm2; rw [K87.ks_snoc]; exact List.mem_append_left _ hp))
          unfold ks at c2l
          rw [List.length_map] at c2l
          refine q_dputU (k := .inl ((K87.far (K87.tieN E tq) (K87.far (K87.tieN E t) h) : Nat) : Int)) (eu_tup2 (x := .non) ev_c (ev_var rfl)) (ev_var rfl) (ev_var rfl) g1 (by omega) fun p7 H7 hp7 e7 h7 => ?_
          obtain ⟨kv7, g1', _, _, _, g5'⟩ := (M6.ex e7).all
          have ek7 : kv7 = kv6 := by
            rw [e7 _ _ g1] at g1'
            injection g1' with z
            injection z with z
            exact z.symm
          rw [ek7] at g5'
          have M7 := g5' _ (.back (K87.far (K87.tieN E t) h)) p7 hmn h7 (fun z => by cases z)
          have F7 : FrS [ca] H (upd H7 ca (.dK (putK kv6 (.inl ((K87.far (K87.tieN E tq) (K87.far (K87.tieN E t) h) : Nat) : Int)) (.ref p7)))) := ((((F3.ex e4).ex e5).ex e6).ex e7).inn (List.mem_singleton_self _)
          have f7 : (upd H7 ca (.dK (putK kv6 (.inl ((K87.far (K87.tieN E tq) (K87.far (K87.tieN E t) h) : Nat) : Int)) (.ref p7)))) fu = some (.lst (natL fl)) := by
            rw [upd_ne (fun z => by rw [z] at f3; rw [e6 _ _ (e5 _ _ (e4 _ _ f3))] at g1; cases g1)]
            exact e7 _ _ (e6 _ _ (e5 _ _ (e4 _ _ f3)))
          generalize upd H7 ca (.dK (putK kv6 (.inl ((K87.far (K87.tieN E tq) (K87.far (K87.tieN E t) h) : Nat) : Int)) (.ref p7))) = G7 at M7 F7 f7 ⊢
          refine q_when (b := decide (K87.far (K87.tieN E tq) (K87.far (K87.tieN E t) h) ∈ lt)) (et_test (ev_is (ev_op (ev_var rfl) (ev_var rfl) (rv_isL (sq_of (F7 _ _ lac hla)) rfl (natL_flat _))) (congrArg V.bl (inV_natL _ _)))) (fun hb8 H8 e8 => ?_) (fun hb8 H8 e8 => ?_)
          · refine s_retU (eu_tup2 (ev_var rfl) (ev_var rfl)) fun q' H9 hq' e9 h9 => ?_
            exact k _ H9 ((F7.ex e8).ex e9) ⟨q', fu, rfl, .inl ⟨_, _, _, h9, (M7.ex e8).ex e9, C2, .inr ⟨⟨_, List.mem_append_right _ (List.mem_singleton_self _)⟩, of_decide_eq_true hb8⟩⟩⟩
          · have B8 := hB (of_decide_eq_false hb8)
            have l8 := B8.len
            have f8 := e8 _ _ f7
            have l8' : cm'.length + 1 + 1 ≤ n := by
              have : (K87.cm2 cm' (K87.far (K87.tieN E t) h) (.via t h) (K87.far (K87.tieN E tq) (K87.far (K87.tieN E t) h))).length = cm'.length + 1 + 1 := by unfold K87.cm2; rw [List.length_append, List.length_append]; rfl
              omega
            refine s_app f8 (ev_var rfl) (ev_var rfl) (by rw [natL_len]; omega) fun H9 e9 => ?_
            refine ⟨_, rk2, fl ++ [K87.far (K87.tieN E tq) (K87.far (K87.tieN E t) h)], ((F7.ex e8).ex e9).mut hfu, ((M7.ex e8).ex e9).mut (e9 _ _ f8), by rw [upd_same, natL_app]; rfl, by rw [← List.append_assoc]; exact B8, ?_, ?_, fun j hj hjl => ?_, _, _, _, rfl⟩
            · rw [K87.ks_snoc, K87.ks_snoc]
              exact List.mem_append_left _ (List.mem_append_left _ hh1)
            · rw [List.length_append, List.length_append, List.length_append]
              show cm'.length + 1 + 1 = cm.length + 2 * (fl.length + 1)
              omega
            · rw [K87.ks_snoc, K87.ks_snoc]
              refine List.mem_append_left _ ?_
              by_cases hji : j = i
              · subst hji
                rw [ht]
                exact List.mem_append_right _ (List.mem_singleton_self _)
              · exact List.mem_append_left _ (hj1 j (by omega) hjl)
    · obtain ⟨cm', rk', fl, F1, M1, hf1, B1, hh1, hl1, hj1, x5, x6, x7, rfl⟩ := p
      refine s_retU (eu_tup2 (y := .non) (ev_var rfl) ev_c) fun q' H2 hq' e2 h2 => k _ H2 (F1.ex e2) ⟨q', fu, rfl, .inr ⟨fl, cm', rk', h2, e2 _ _ hf1, M1.ex e2, B1.done fun t ht => ?_, hl1⟩⟩
      obtain ⟨j, hj, ej⟩ := List.mem_iff_getElem.mp ht
      have := hj1 j (by rw [List.length_map, R.len]; exact hj) hj
      rw [List.getD_eq_getElem?_getD, List.getElem?_eq_getElem hj] at this
      rw [← ej]
      exact this
end
end K87W
/-! pairings.py: sought, turned, ties -/
namespace K87W
open PySem PySem.Spec PyProof.Rows L2 Evl K87X
open K87 (Came Cml ks)
theorem ep_disp1 {K : PySem.W.Frag} {σ : L2.St} {H : Hp} {tk tv : TE} {k : Key} {v : V} (h1 : Ev tk σ H (kV k)) (h2 : Ev tv σ H v) : EvP (tDisp [(tk, tv)]) σ H fun u H' => ∃ p, u = .ref p ∧ H p = none ∧ H' p = some (.dK [(k, v)]) := fun H1 e Q q p hp =>
  h1 _ (e.trans (Ex.new hp)) _ fun H2 e2 => h2 _ ((e.trans (Ex.new hp)).trans e2) _ fun H3 e3 => ⟨e3 _ _ (e2 _ _ upd_same), [(k, v)], rfl, show 1 ≤ 15 by decide, by
    have n3 : H1 p = none := hp
    refine q _ _ (fun b o hb => ?_) ⟨p, rfl, fresh_back e hp, upd_same⟩
    rw [upd_ne (ne_of_none hb hp)]
    exact e3 _ _ (e2 _ _ (Ex.new hp _ _ hb))⟩
theorem seq_via {t tz : TS} {D : Ends} {σ : L2.St} {H : Hp} (W0 : L2.St → Hp → Prop) (key : ∀ σ' H', W0 σ' H' → tz D σ' H') (h : (∀ σ' H', W0 σ' H' → tz D σ' H') → tSeq t tz D σ H) : tSeq t tz D σ H := h key
section
variable {P : Program} {w : World} {K : PySem.W.Frag} {mg : Str → Option Value} {base : Heap}
abbrev s_Pairs_sought : Stmt := inClass (topS 25) 3
abbrev n_Pairs_sought : List Str := ["self", "place", "let", "came", "waiting", "further", "end"]
theorem sc_Pairs_sought : FnScope n_Pairs_sought ["self", "place", "let"] (defScope s_Pairs_sought) := ⟨rfl, rfl, rfl, by decide +kernel, rfl, by decide +kernel, by decide +kernel⟩
def Sought (H0 : Hp) (n : Nat) (E : List K87.Tie) (s : Nat → Bool) (tk : Nat → Option Nat) (r : Nat) (lt : List Nat) : V → Hp → Prop := fun v H' => ∃ q ca cm rk, v = .ref q ∧ H0 ca = none ∧ CmE H' ca cm ∧ ((∃ e, H' q = some (.tup [.ref ca, .int ((e : Nat) : Int)]) ∧ K87.CmOk n E s tk r rk cm ∧ EndOk tk lt cm e) ∨ (H' q = some (.tup [.ref ca, .non]) ∧ K87.Bfs n E s tk r lt rk cm [] []))
def sp_sought (C : Addr) : Sp := fun vs H Q _ => ∃ (x a nl tl la : Addr) (as : List Addr) (n p : Nat) (E : List K87.Tie) (tk : Nat → Option Nat) (s : Nat → Bool) (lt : List Nat), vs = [.ref x, .int p, .ref la] ∧ Pr C H x a nl tl as n E tk ∧ H la = some (.lst (natL lt)) ∧ lt.length ≤ 1000 ∧
  p < n ∧ tk p = none ∧ p ∉ lt ∧ K87.Mat n E tk ∧ K87.Two E s ∧ RetP (Sought H n E s tk p lt) H Q
theorem sp_sought_of {C : Addr} {H : Hp} {x a nl tl la : Addr} {as : List Addr} {n p : Nat} {E : List K87.Tie} {tk : Nat → Option Nat} {s : Nat → Bool} {lt : List Nat} (O : Pr C H x a nl tl as n E tk) (hla : H la = some (.lst (natL lt))) (hlt : lt.length ≤ 1000) (hp : p < n) (hn : tk p = none) (hpl : p ∉ lt) (mat : K87.Mat n E tk) (two : K87.Two E s) {Q : VK} {E' : XK} (q : RetP (Sought H n E s tk p lt) H Q) : sp_sought C [.ref x, .int p, .ref la] H Q E' :=
  ⟨x, a, nl, tl, la, as, n, p, E, tk, s, lt, rfl, O, hla, hlt, hp, hn, hpl, mat, two, q⟩
theorem ok_sought {C : Addr} (D : MetDef K C "sought" "Pairs.sought" s_Pairs_sought ["self", "place", "let"]) (T : Txt mg) (G : PrK K C) (A_went_on : MetAt P w K mg base C 2 "went_on" ["self", "here", "came", "let"] (sp_went_on C)) : MetAt P w K mg base C 3 "sought" ["self", "place", "let"] (sp_sought C) := D.at fun f fd F => by
  refine F.ok sc_Pairs_sought (fun vs H Q E h => ?_) (fun cdv A outer s H vs Q E hr h => ?_)
  · obtain ⟨x, a, nl, tl, la, as, n, p, E, tk, s, lt, rfl, _⟩ := h
    rfl
  · obtain ⟨x, a, nl, tl, la, as, n, p, E, tk, sd, lt, rfl, O, hla, hlt, hpn, htk, hpl, mat, two, k⟩ := h
    have C_went_on := G.cls
    refine ⟨_, (pss_cons (ps_set (i := 3) sc_Pairs_sought.nd rfl (Or.inl rfl) (pe_disp (pps_cons (pv 1) pe_non pps_nil) (by rfl) (by rfl) (fun z => by cases z) (by decide)))
      (pss_cons (ps_set (i := 4) sc_Pairs_sought.nd rfl (Or.inl rfl) (pe_lst (pa_cons (pv 1) pa_nil)))
      (pss_cons (ps_while PassesOwn.never (pt_cmpR op_gt (pe_callB call_len_seq (by rfl) T.len PySem.boot_len (pa_cons (pv 4) pa_nil)) pe_int (nomark _)) (pss_cons (ps_asg (pe_metat C_went_on A_went_on (pv 0) (hr.mono (by decide)) (pa_cons (pe_bm PySem.F.plainAttrs_list PySem.F.slot_list_pop PySem.F.type_list_pop mt_popAt (pv 4) (pa_cons pe_int pa_nil)) (pa_cons (pv 3) (pa_cons (pv 2) pa_nil)))) (pg_tup rfl (pgs_cons (pg_name (i := 5) sc_Pairs_sought.nd rfl (Or.inl rfl)) (pgs_cons (pg_name (i := 6) sc_Pairs_sought.nd rfl (Or.inl rfl)) pgs_nil))))
      (pss_cons (ps_if (pt_cmpR op_notN (pv 6) pe_non (nomark _)) (pss_one (ps_ret (pe_tup (pa_cons (pv 3) (pa_cons (pv 6) pa_nil))))) pss_nil)
      (pss_one (ps_expr (pe_bm PySem.F.plainAttrs_list PySem.F.slot_list_extend PySem.F.type_list_extend mt_extend (pv 4) (pa_cons (pv 5) pa_nil)))))))
      (pss_one (ps_ret (pe_tup (pa_cons (pv 3) (pa_cons pe_non pa_nil)))))))), ?_⟩
    have hln := O.web.ln
    refine q_asgP (ep_disp1 (K := K) (k := .inl (p : Int)) (v := .non) (ev_var rfl) ev_c) fun v H1 e1 hv => ?_
    obtain ⟨ca, rfl, hca0, hca1⟩ := hv
    have M1 : CmE H1 ca [(p, .root)] := ⟨[(p, .root, 0)], rfl, hca1, fun e he => by rw [List.mem_singleton.mp he]; trivial⟩
    refine q_asgL (el_lst (ea_cons (ev_var (v := .int (p : Int)) rfl) ea_nil) (show 1 ≤ 100000 by decide)) fun wt H2 hwt e2 h2 => ?_
    have hwt0 := fresh_back e1 hwt
    refine q_while (fun m σ' H' => ∃ cm rk wl, m = (n - cm.length) + wl.length ∧ m ≤ n ∧ Ex H H' ∧ CmE H' ca cm ∧ H' wt = some (.lst (natL wl)) ∧ K87.Bfs n E sd tk p lt rk cm wl [] ∧ ∃ x5 x6, σ' = [some (.ref x), some (.int p), some (.ref la), some (.ref ca), some (.ref wt), x5, x6]) _
      ⟨[(p, .root)], fun _ => 0, [p], rfl, by show n - 1 + 1 ≤ n; omega, e1.trans e2, M1.ex e2, h2, .start hpn htk hpl, _, _, rfl⟩ fun m σ' H' hw => ?_
    obtain ⟨cm, rk, wl, rfl, hmn, p1, M, hwl, B, x5, x6, rfl⟩ := hw
    refine ⟨decide (0 < wl.length), et_is (ev_len0 (ev_var rfl) hwl) (by rw [natL_len]), fun hb H3 e3 => ?_, fun hb H3 e3 => ?_⟩
    · match wl, hb, hwl, B, hmn with
      | h :: wl, _, hwl, B, hmn =>
        obtain ⟨B1, hh, hs⟩ := B.pop
        have hwl3 := e3 _ _ hwl
        obtain ⟨dx, ho⟩ := ((O.ex p1).ex e3).obj
        refine ⟨_, fun _ _ z => z, ?_⟩
        refine ⟨.ref x, rfl, x, dx, _, rfl, ho, rfl, .ref wt, rfl, Or.inl ⟨rfl, _, sq_of hwl3⟩, wt, _, 0, 0, .int (h : Int), rfl, rfl, hwl3, by decide, by decide, (ixN_seq (ixN_nat (n := (natL (h :: wl)).length) (j := 0) (by rw [natL_len, List.length_cons]; omega))).1, rfl, .ref ca, rfl, .ref la, rfl, ?_⟩
        have w4 : (upd H3 wt (.lst ((natL (h :: wl)).eraseIdx 0))) wt = some (.lst (natL wl)) := upd_same
        have p4 : Ex H (upd H3 wt (.lst ((natL (h :: wl)).eraseIdx 0))) := Ex.mut (p1.trans e3) hwt0
        have M4 : CmE (upd H3 wt (.lst ((natL (h :: wl)).eraseIdx 0))) ca cm := (M.ex e3).mut hwl3
        generalize upd H3 wt (.lst ((natL (h :: wl)).eraseIdx 0)) = G4 at w4 p4 M4 ⊢
        have lB := B.len
        refine ⟨x, a, nl, tl, ca, la, as, n, h, p, E, tk, sd, lt, wl, rk, cm, rfl, O.ex p4, M4, p4 _ _ hla, hlt, B1, hh, hs, mat, two, fun v H5 F5 hv => ?_⟩
        have p5 : Ex H H5 := Ex.fr p4 F5 fun b hb => by rw [List.mem_singleton.mp hb]; exact hca0
        obtain ⟨kvs, hk, _⟩ := M4.all
        have wc : wt ∉ [ca] := fun z => by rw [List.mem_singleton.mp z, hk] at w4; cases w4
        have w5 := F5 _ _ wc w4
        obtain ⟨q, fu, rfl, hv | hv⟩ := hv
        · obtain ⟨e, cm', rk', h1, M5, C5, Ee⟩ := hv
          refine g_pair h1 ?_
          refine q_when (b := true) (et_notN (ev_var rfl) rfl) (fun _ H6 e6 => ?_) (fun z => nomatch z)
          refine s_retU (eu_tup2 (ev_var rfl) (ev_var rfl)) fun q' H7 hq' e7 h7 => ?_
          exact k _ H7 ((p5.trans e6).trans e7) ⟨q', ca, cm', rk', rfl, hca0, (M5.ex e6).ex e7, .inl ⟨e, h7, C5, Ee⟩⟩
        · obtain ⟨fl, cm', rk', h1, hfu, M5, B5, hl⟩ := hv
          refine g_pair h1 ?_
          have lB5 := B5.len
          rw [List.length_cons] at hmn
          refine q_when (b := false) (et_notN (ev_var rfl) rfl) (fun z => nomatch z) fun _ H6 e6 => ?_
          have w6 := e6 _ _ w5
          refine s_ext w6 (e6 _ _ hfu) (ev_var rfl) (ev_var rfl) (by rw [natL_len, natL_len]; omega) fun H7 e7 => ?_
          refine ⟨n - cm'.length + (wl ++ fl).length, by rw [List.length_append, List.length_cons]; omega, cm', rk', wl ++ fl, rfl, by rw [List.length_append]; omega, Ex.mut ((p5.trans e6).trans e7) hwt0, ((M5.ex e6).ex e7).mut (e7 _ _ w6), by rw [upd_same, natL_app], B5, _, _, rfl⟩
    · match wl, hb, hwl, B with
      | [], _, hwl, B =>
        refine s_retU (eu_tup2 (y := .non) (ev_var rfl) ev_c) fun q' H7 hq' e7 h7 => ?_
        exact k _ H7 ((p1.trans e3).trans e7) ⟨q', ca, cm, rk, rfl, hca0, (M.ex e3).ex e7, .inr ⟨h7, B⟩⟩
      | h :: wl, hb, _, _ => exact absurd hb (by simp)
/-! turned -/
abbrev s_Pairs_turned : Stmt := inClass (topS 25) 4
abbrev n_Pairs_turned : List Str := ["self", "came", "end", "place", "tie", "ahead", "back"]
theorem sc_Pairs_turned : FnScope n_Pairs_turned ["self", "came", "end"] (defScope s_Pairs_turned) := ⟨rfl, rfl, rfl, by decide +kernel, rfl, by decide +kernel, by decide +kernel⟩
def sp_turned (C : Addr) : Sp := fun vs H Q _ => ∃ (x a nl tl ca : Addr) (as : List Addr) (n r e : Nat) (E : List K87.Tie) (tk : Nat → Option Nat) (s : Nat → Bool) (lt : List Nat) (rk : Nat → Nat) (cm : Cml) (F : Nat → Prop), vs = [.ref x, .ref ca, .int e] ∧ Pr C H x a nl tl as n E tk ∧ CmE H ca cm ∧ K87.CmOk n E s tk r rk cm ∧ EndOk tk lt cm e ∧
  K87.Mat n E tk ∧ K87.Two E s ∧ K87.FOut cm F ∧ ¬ F e ∧ ∀ H' tk', FrS [tl] H H' → Pr C H' x a nl tl as n E tk' → K87.TFin n E tk r F (fun y => y = e) tk' → Q .non H'
theorem ok_turned {C : Addr} (D : MetDef K C "turned" "Pairs.turned" s_Pairs_turned ["self", "came", "end"]) (T : Txt mg) (G : PrK K C) : MetAt P w K mg base C 1 "turned" ["self", "came", "end"] (sp_turned C) := D.at fun f fd FF => by
  refine FF.ok sc_Pairs_turned (fun vs H Q E h => ?_) (fun cdv A outer s H vs Q E hr h => ?_)
  · obtain ⟨x, a, nl, tl, ca, as, n, r, e, E, tk, sd, lt, rk, cm, F, rfl, _⟩ := h
    rfl
  · obtain ⟨x, a, nl, tl, ca, as, n, r, e, E, tk, sd, lt, rk, cm, F, rfl, O, M, CO, Ee, mat, two, fo, nf, k⟩ := h
    refine ⟨_, (pss_cons (ps_set (i := 3) sc_Pairs_turned.nd rfl (Or.inl rfl) (pv 2))
      (pss_cons (ps_if (pt_cmpR op_isN (pe_ix ix_tup (pe_dget (hu_of hr) (pv 1) (pv 2) (fun _ _ => rfl)) pe_int (fun _ _ => rfl)) pe_non (nomark _)) (pss_cons (ps_asg pe_non (pg_sub (pe_fld (pv 0) rfl) (pv 2) set_list))
      (pss_one (ps_set (i := 3) sc_Pairs_turned.nd rfl (Or.inl rfl) (pe_ix ix_tup (pe_dget (hu_of hr) (pv 1) (pv 2) (fun _ _ => rfl)) pe_int (fun _ _ => rfl))))) pss_nil)
      (pss_one (ps_while PassesOwn.never (pt_cmpR op_notN (pe_dget (hu_of hr) (pv 1) (pv 3) (fun _ _ => rfl)) pe_non (nomark _)) (pss_cons (ps_asg (pe_dget (hu_of hr) (pv 1) (pv 3) (fun _ _ => rfl)) (pg_tup rfl (pgs_cons (pg_name (i := 4) sc_Pairs_turned.nd rfl (Or.inl rfl)) (pgs_cons (pg_name (i := 5) sc_Pairs_turned.nd rfl (Or.inl rfl)) pgs_nil))))
      (pss_cons (ps_asg (pv 4) (pg_sub (pe_fld (pv 0) rfl) (pv 3) set_list))
      (pss_cons (ps_asg (pv 4) (pg_sub (pe_fld (pv 0) rfl) (pv 5) set_list))
      (pss_cons (ps_set (i := 6) sc_Pairs_turned.nd rfl (Or.inl rfl) (pe_dget (hu_of hr) (pv 1) (pv 5) (fun _ _ => rfl)))
      (pss_one (ps_set (i := 3) sc_Pairs_turned.nd rfl (Or.inl rfl) (pe_ifExp (pt_cmpR op_isN (pv 6) pe_non (nomark _)) (pv 5) (pe_ix ix_tup (pv 6) pe_int (fun _ _ => rfl))))))))))))), ?_⟩
    have hln := O.web.ln
    have nr : e ≠ r := fun z => by
      rcases Ee with ⟨⟨t, h, hm⟩, _⟩ | ⟨⟨h, hm⟩, _⟩
      · rw [z] at hm
        have := (K87.lookup_of_mem CO.nd hm).symm.trans (K87.lookup_of_mem CO.nd CO.root)
        cases this
      · rw [z] at hm
        have := (K87.lookup_of_mem CO.nd hm).symm.trans (K87.lookup_of_mem CO.nd CO.root)
        cases this
    -- what stands at a place of the dict
    have look : ∀ {H1 : Hp} {σ : L2.St} {ty : TE} {p : Nat} {c : Came}, CmE H1 ca cm → (p, c) ∈ cm → σ[1]? = some (some (.ref ca)) → Ev ty σ H1 (.int (p : Int)) → ∃ q, Ev (tDGet (tVar 1) ty) σ H1 (cV c q) ∧ CT H1 c q := fun {H1 σ ty p c} M1 hm h1 hy => by
      obtain ⟨kvs, k1, _, _, k4, _⟩ := M1.all
      obtain ⟨q, v1, v2⟩ := k4 CO.nd p c hm
      exact ⟨q, ev_dget (k := .inl (p : Int)) (ev_var h1) hy k1 v1, v2⟩
    -- the loop
    let W : Nat → L2.St → Hp → Prop := fun m σ' H' => ∃ tk' p x4 x5 x6, FrS [tl] H H' ∧ Pr C H' x a nl tl as n E tk' ∧ CmE H' ca cm ∧ σ' = [some (.ref x), some (.ref ca), some (.int (e : Int)), some (.int ((p : Nat) : Int)), x4, x5, x6] ∧
      ((m = rk p + 1 ∧ K87.THole n E tk rk cm F (fun y => y = e) tk' p) ∨ (m = 0 ∧ p = r ∧ K87.TFin n E tk r F (fun y => y = e) tk'))
    have wlen : ∀ {tk'}, (optL n tk').length = n := optL_len
    refine q_asg (ev_var (v := .int (e : Int)) rfl) fun H1 e1 => ?_
    refine seq_via (fun σ' H' => ∃ m, W m σ' H') (fun σ' H' hw => ?_) fun key => ?_
    · obtain ⟨m0, hw⟩ := hw
      refine s_while W m0 hw fun m σ' H' hw => ?_
      obtain ⟨tk', p, x4, x5, x6, f1, O1, M1, rfl, hw | hw⟩ := hw
      · obtain ⟨rfl, TH⟩ := hw
        obtain ⟨t, h, hm⟩ := TH.via
        obtain ⟨q, v1, v2⟩ := look (σ := [some (.ref x), some (.ref ca), some (.int (e : Int)), some (.int ((p : Nat) : Int)), x4, x5, x6]) (ty := tVar 3) M1 hm rfl (ev_var rfl)
        refine ⟨true, et_notN v1 rfl, fun _ H2 e2 => ⟨_, fun _ _ z => z, ?_⟩, fun z => nomatch z⟩
        obtain ⟨htl, hhk, st⟩ := TH.step O.web.ok two CO mat fo hm (fun z => nr z.symm)
        have hpn := CO.lt p (K87.mem_ks hm)
        have hhn := CO.lt h hhk
        refine q_asgG (v1.mono e2) fun H3 e3 => g_pair (e3 _ _ (e2 _ _ v2)) ?_
        have O3 := (O1.ex e2).ex e3
        have M3 := (M1.ex e2).ex e3
        refine q_setL (j := p) O3.taken (ev_var rfl) (ev_ptl G O3 rfl) (ev_var rfl) (by rw [wlen]; exact hpn) fun H4 e4 => ?_
        have O4 := (O3.ex e4).set (tk' := K87.setf tk' p (some t))
        have M4 := (M3.ex e4).mut (o := .lst (optL n (K87.setf tk' p (some t)))) (O3.ex e4).taken
        have f4 : FrS [tl] H (upd H4 tl (.lst (optL n (K87.setf tk' p (some t))))) := (((f1.ex e2).ex e3).ex e4).inn (List.mem_singleton_self _)
        rw [show V.int ((t : Nat) : Int) = oV (some t) from rfl, optL_set]
        generalize upd H4 tl (.lst (optL n (K87.setf tk' p (some t)))) = G4 at O4 M4 f4 ⊢
        refine q_setL (j := h) O4.taken (ev_var rfl) (ev_ptl G O4 rfl) (ev_var rfl) (by rw [wlen]; exact hhn) fun H5 e5 => ?_
        have O5 := (O4.ex e5).set (tk' := K87.setf (K87.setf tk' p (some t)) h (some t))
        have M5 := (M4.ex e5).mut (o := .lst (optL n (K87.setf (K87.setf tk' p (some t)) h (some t)))) (O4.ex e5).taken
        have f5 : FrS [tl] H (upd H5 tl (.lst (optL n (K87.setf (K87.setf tk' p (some t)) h (some t))))) := (f4.ex e5).inn (List.mem_singleton_self _)
        rw [optL_set]
        generalize upd H5 tl (.lst (optL n (K87.setf (K87.setf tk' p (some t)) h (some t)))) = G5 at O5 M5 f5 ⊢
        rcases st with ⟨rfl, hroot, TF⟩ | ⟨p2, hback, hrk, TH2⟩
        · obtain ⟨q5, w1, w2⟩ := look (σ := [some (.ref x), some (.ref ca), some (.int (e : Int)), some (.int ((p : Nat) : Int)), some (oV (some t)), some (.int ((h : Nat) : Int)), x6]) (ty := tVar 5) M5 hroot rfl (ev_var rfl)
          refine q_asg w1 fun H6 e6 => ?_
          refine s_asg (v := .int ((h : Nat) : Int)) (ev_if (b := true) (et_isN (ev_var rfl) rfl) (fun _ => ev_var rfl) (fun z => nomatch z)) fun H7 e7 => ?_
          exact ⟨0, Nat.succ_pos _, _, h, _, _, _, (f5.ex e6).ex e7, (O5.ex e6).ex e7, (M5.ex e6).ex e7, rfl, .inr ⟨rfl, rfl, TF⟩⟩
        · obtain ⟨q5, w1, w2⟩ := look (σ := [some (.ref x), some (.ref ca), some (.int (e : Int)), some (.int ((p : Nat) : Int)), some (oV (some t)), some (.int ((h : Nat) : Int)), x6]) (ty := tVar 5) M5 hback rfl (ev_var rfl)
          refine q_asg w1 fun H6 e6 => ?_
          refine s_asg (v := .int ((p2 : Nat) : Int)) (ev_if (b := false) (et_isN (ev_var rfl) rfl) (fun z => nomatch z) (fun _ => ev_op (ev_var rfl) ev_c (rv_ixT (st_of (e6 _ _ w2)) rfl))) fun H7 e7 => ?_
          exact ⟨rk p2 + 1, Nat.succ_lt_succ hrk, _, p2, _, _, _, (f5.ex e6).ex e7, (O5.ex e6).ex e7, (M5.ex e6).ex e7, rfl, .inl ⟨rfl, TH2⟩⟩
      · obtain ⟨rfl, rfl, TF⟩ := hw
        obtain ⟨q, v1, v2⟩ := look (σ := [some (.ref x), some (.ref ca), some (.int (e : Int)), some (.int ((p : Nat) : Int)), x4, x5, x6]) (ty := tVar 3) M1 CO.root rfl (ev_var rfl)
        exact ⟨false, et_notN v1 rfl, (fun z => nomatch z), fun _ H2 e2 => k H2 tk' (f1.ex e2) (O1.ex e2) TF⟩
    · have O1 := O.ex e1
      have M1 := M.ex e1
      rcases Ee with ⟨⟨t, h, hm⟩, hfree⟩ | ⟨⟨h, hm⟩, _⟩
      · obtain ⟨q, v1, v2⟩ := look (σ := [some (.ref x), some (.ref ca), some (.int (e : Int)), some (.int ((e : Nat) : Int)), none, none, none]) (ty := tVar 2) M1 hm rfl (ev_var rfl)
        refine q_when (b := false) (et_isN (ev_op v1 ev_c (rv_ixT (st_of v2) rfl)) rfl) (fun z => nomatch z) fun _ H2 e2 => ?_
        exact key _ _ ⟨_, tk, e, _, _, _, FrS.of (e1.trans e2), O1.ex e2, M1.ex e2, rfl, .inl ⟨rfl, .free CO mat ⟨t, h, hm⟩ hfree nf⟩⟩
      · obtain ⟨q, v1, v2⟩ := look (σ := [some (.ref x), some (.ref ca), some (.int (e : Int)), some (.int ((e : Nat) : Int)), none, none, none]) (ty := tVar 2) M1 hm rfl (ev_var rfl)
        refine q_when (b := true) (et_isN (ev_op v1 ev_c (rv_ixT (st_of v2) rfl)) rfl) (fun _ H2 e2 => ?_) (fun z => nomatch z)
        have O2 := O1.ex e2
        have M2 := M1.ex e2
        have hen := CO.lt e (K87.mem_ks hm)
        refine q_setL (j := e) O2.taken ev_c (ev_ptl G O2 rfl) (ev_var rfl) (by rw [wlen]; exact hen) fun H3 e3 => ?_
        have O3 := (O2.ex e3).set (tk' := K87.setf tk e none)
        have M3 := (M2.ex e3).mut (o := .lst (optL n (K87.setf tk e none))) (O2.ex e3).taken
        have f3 : FrS [tl] H (upd H3 tl (.lst (optL n (K87.setf tk e none)))) := (FrS.of ((e1.trans e2).trans e3)).inn (List.mem_singleton_self _)
        rw [show V.non = oV none from rfl, optL_set]
        generalize upd H3 tl (.lst (optL n (K87.setf tk e none))) = G3 at O3 M3 f3 ⊢
        obtain ⟨q3, w1, w2⟩ := look (σ := [some (.ref x), some (.ref ca), some (.int (e : Int)), some (.int ((e : Nat) : Int)), none, none, none]) (ty := tVar 2) M3 hm rfl (ev_var rfl)
        refine s_asg (v := .int ((h : Nat) : Int)) (ev_op w1 ev_c (rv_ixT (st_of w2) rfl)) fun H4 e4 => ?_
        exact key _ _ ⟨_, _, h, _, _, _, f3.ex e4, O3.ex e4, M3.ex e4, rfl, .inl ⟨rfl, .bare O.web.ok two CO mat fo hm nf⟩⟩
/-! ties -/
theorem ex_dedup (l : List Int) : ∃ m : List Int, m.Nodup ∧ (∀ k, k ∈ m ↔ k ∈ l) ∧ m.length ≤ l.length := by
  induction l with
  | nil => exact ⟨[], List.nodup_nil, fun k => Iff.rfl, Nat.le_refl _⟩
  | cons a l ih =>
    obtain ⟨m, h1, h2, h3⟩ := ih
    by_cases ha : a ∈ l
    · exact ⟨m, h1, fun k => by rw [h2, List.mem_cons]; exact ⟨.inr, fun z => z.elim (fun z => by rw [z]; exact ha) id⟩, by rw [List.length_cons]; omega⟩
    · exact ⟨a :: m, List.nodup_cons.mpr ⟨fun z => ha ((h2 a).mp z), h1⟩, fun k => by rw [List.mem_cons, List.mem_cons, h2], by rw [List.length_cons, List.length_cons]; omega⟩
theorem nats_of : ∀ l : List Int, (∀ k ∈ l, 0 ≤ k) → ∃ m : List Nat, l = m.map fun (t : Nat) => (t : Int)
  | [], _ => ⟨[], rfl⟩
  | a :: l, h => by
    obtain ⟨m, hm⟩ := nats_of l fun k hk => h k (List.mem_cons_of_mem _ hk)
    exact ⟨a.toNat :: m, by rw [List.map_cons, ← hm]; congr 1; have := h a List.mem_cons_self; omega⟩
/-- sorted(set(xs)) -/
theorem ep_sortedSet {w : World} {K : PySem.W.Frag} {σ : L2.St} {H : Hp} {ta : TE} {L : List Nat} (h : EvL ta σ H (natL L)) (hz : L.length < 64) : EvP (tCB (rSortedSet w) (tCons (tCB (K87X.rSetL K w) (tCons ta tNil)) tNil)) σ H fun v H' => ∃ l ts, v = .ref l ∧ H l = none ∧ H' l = some (.lst (natL ts)) ∧ ts.Pairwise (· < ·) ∧ ∀ t, t ∈ ts ↔ t ∈ L := fun H0 e Q k =>
  h H0 e _ fun l H1 hl e1 h1 => ⟨l, L.map fun (t : Nat) => (t : Int), rfl, sq_of (by rw [h1]; congr 2; unfold natL; rw [List.map_map]; rfl), by rw [List.length_map]; omega, fun p c hp hc => by
    obtain ⟨m, d1, d2, d3⟩ := ex_dedup (L.map fun (t : Nat) => (t : Int))
    have hcm := hc m d1 d2
    rw [List.length_map] at d3
    refine ⟨p, _, c, rfl, upd_same, by omega, fun ns' q hpw hm' hlen' hq => ?_⟩
    obtain ⟨ts, rfl⟩ := nats_of ns' fun k hk => by
      have := (hm' k).mp hk
      obtain ⟨t, _, rfl⟩ := List.mem_map.mp (of_decide_eq_true this)
      omega
    refine k _ _ (((e1.trans (Ex.new hp))).trans (Ex.new hq)) ⟨q, ts, rfl, fresh_back ((e.trans e1).trans (Ex.new hp)) hq, by rw [upd_same]; congr 2; unfold natL; rw [List.map_map]; rfl, ?_, fun t => ?_⟩
    · exact (List.pairwise_map.mp hpw).imp fun z => by omega
    · have h2 := hm' (t : Int)
      rw [decide_eq_true_eq] at h2
      refine ⟨fun z => ?_, fun z => ?_⟩
      · obtain ⟨t', z1, z2⟩ := List.mem_map.mp (h2.mp (List.mem_map.mpr ⟨t, z, rfl⟩))
        have : t' = t := by omega
        rw [← this]
        exact z1
      · obtain ⟨t', z1, z2⟩ := List.mem_map.mp (h2.mpr (List.mem_map.mpr ⟨t, z, rfl⟩))
        have : t' = t := by omega
        rw [← this]
        exact z1⟩
def TakenL (H0 : Hp) (n : Nat) (tk : Nat → Option Nat) : V → Hp → Prop := fun v H' => ∃ l ts, v = .ref l ∧ H0 l = none ∧ H' l = some (.lst (natL ts)) ∧ K87.TiesOf n tk ts
theorem TakenL.back {H0 H1 H' : Hp} {n : Nat} {tk : Nat → Option Nat} {v : V} (e : Ex H0 H1) (h : TakenL H1 n tk v H') : TakenL H0 n tk v H' :=
  let ⟨l, ts, h1, h2, h3⟩ := h
  ⟨l, ts, h1, fresh_back e h2, h3⟩
abbrev s_Pairs_ties : Stmt := inClass (topS 25) 5
abbrev n_Pairs_ties : List Str := ["self", "tie"]
theorem sc_Pairs_ties : FnScope n_Pairs_ties ["self"] (defScope s_Pairs_ties) := ⟨rfl, rfl, rfl, by decide +kernel, rfl, by decide +kernel, by decide +kernel⟩
def sp_ties (C : Addr) : Sp := fun vs H Q _ => ∃ (x a nl tl : Addr) (as : List Addr) (n : Nat) (E : List K87.Tie) (tk : Nat → Option Nat), vs = [.ref x] ∧ Pr C H x a nl tl as n E tk ∧ RetP (TakenL H n tk) H Q
theorem ok_ties {C : Addr} (D : MetDef K C "ties" "Pairs.ties" s_Pairs_ties ["self"]) (T : Txt mg) (G : PrK K C) : MetAt P w K mg base C 1 "ties" ["self"] (sp_ties C) := D.at fun f fd F => by
  refine F.ok sc_Pairs_ties (fun vs H Q E h => ?_) (fun cdv A outer s H vs Q E hr h => ?_)
  · obtain ⟨x, a, nl, tl, as, n, E, tk, rfl, _⟩ := h
    rfl
  · obtain ⟨x, a, nl, tl, as, n, E, tk, rfl, O, k⟩ := h
    refine ⟨_, (pss_one (ps_ret (pe_callB (cr_sortedSet rfl) (by rfl) T.sorted (by decide +kernel) (pa_cons (pe_callTy (cr_setL rfl) (by rfl) T.set (by decide +kernel) (pa_cons (pe_lc (own := [("tie", 1)]) rfl sc_Pairs_ties.nd (pi_list (pe_fld (pv 0) rfl)) (blkOk_by (own := [("tie", 1)]) (N := n_Pairs_ties) (sc := defScope s_Pairs_ties) (by decide +kernel)) (fun _ _ _ _ _ => (pg_name (i := 1) sc_Pairs_ties.nd rfl (Or.inl rfl))) (fun _ _ _ _ _ => pts_one (pt_cmpR op_notN (pv 1) pe_non (nomark _))) (fun _ _ _ _ _ => (pv 1))) pa_nil)) pa_nil)))), ?_⟩
    have hln := O.web.ln
    have ns : ∀ p, tk p = none ∨ ∃ t, tk p = some t := fun p => by
      cases tk p with
      | none => exact .inl rfl
      | some t => exact .inr ⟨t, rfl⟩
    have hL : EvL (tLc (iList K (tFld K (tVar 0) "taken")) (gName 1) (tTest (tOp (fun x y H Q => y = .non ∧ Q (.bl (!decide (x = .non))) H) (tVar 1) (tC .non))) (tVar 1) [1]) (start n_Pairs_ties [.ref x]) H (natL (((List.range n).filter fun p => (tk p).isSome).map fun p => (tk p).getD 0)) := by
      refine el_is (el_lcL (fun p => (tk p).isSome) (fun p => oV (tk p)) (ev_ptl G O rfl) (sq_of O.taken) (by rw [optL_len]; omega) (fun _ => rfl) (fun i v H1 e1 hx => ?_) (fun i v H1 e1 hx _ => ?_)) ?_
      · have hi : i < n := by rw [← optL_len (n := n) (f := tk)]; exact (List.getElem?_eq_some_iff.mp hx).1
        rw [optL_get hi] at hx
        cases hx
        exact et_notN (ev_var rfl) (by rw [oV_non]; cases tk i <;> rfl)
      · have hi : i < n := by rw [← optL_len (n := n) (f := tk)]; exact (List.getElem?_eq_some_iff.mp hx).1
        rw [optL_get hi] at hx
        cases hx
        exact ev_var rfl
      · rw [optL_len]
        unfold given natL
        rw [List.map_map]
        refine List.map_congr_left fun p hp => ?_
        have := (List.mem_filter.mp hp).2
        rcases ns p with z | ⟨t, z⟩
        · rw [z] at this; cases this
        · show oV (tk p) = V.int ((((tk p).getD 0 : Nat)) : Int)
          rw [z]
          rfl
    have hlen : (((List.range n).filter fun p => (tk p).isSome).map fun p => (tk p).getD 0).length ≤ n := by
      rw [List.length_map]
      have := List.length_filter_le (fun p => (tk p).isSome) (List.range n)
      rw [List.length_range] at this
      exact this
    have hmem : ∀ t, t ∈ (((List.range n).filter fun p => (tk p).isSome).map fun p => (tk p).getD 0) ↔ ∃ p, p < n ∧ tk p = some t := fun t => by
      rw [List.mem_map]
      refine ⟨fun ⟨p, hp, e⟩ => ?_, fun ⟨p, hp, e⟩ => ⟨p, List.mem_filter.mpr ⟨List.mem_range.mpr hp, by rw [e]; rfl⟩, by rw [e]; rfl⟩⟩
      obtain ⟨h2, h3⟩ := List.mem_filter.mp hp
      rcases ns p with z | ⟨t', z⟩
      · rw [z] at h3; cases h3
      · exact ⟨p, List.mem_range.mp h2, by rw [z] at e ⊢; exact congrArg some e⟩
    refine s_retP (ep_sortedSet hL (by omega)) fun v H1 e1 hv => ?_
    obtain ⟨l, ts, rfl, hf, h1, h2, h3⟩ := hv
    exact k _ H1 e1 ⟨l, ts, rfl, hf, h1, h2, fun t => (h3 t).trans (hmem t)⟩
end
end K87W
/-! pairings.py: greatest_pairs, cover_of, pairing, full_pairing -/
namespace K87W
open PySem PySem.Spec PyProof.Rows L2 Evl K87X
open K87 (Came Cml ks)
section
variable {K : PySem.W.Frag} {σ : L2.St} {H H' H1 H2 : Hp} {ta tb te td ty tv : TE} {t : TA} {x y z v : V} {P : V → Hp → Prop} {i j : Nat} {D : Ends} {tz tu : TS} {xs vs : List V} {g : TG} {a C dx : Addr} {fs : List (Str × V)} {m : Str} {sp : Sp} {E : XK} {S : List Addr}
/-- a method's call whose arguments may change the heap -/
theorem q_methR (hj : σ[j]? = some (some (.ref a))) (ho : H a = some (.ins C dx fs)) (hl : fs.lookup m = none) (ha : t σ H fun vs H1 => sp (.ref a :: vs) H1 (fun v H2 => g v σ H2 fun σ' H' => tz D σ' H') E) : tSeq (tAsg (tMeth C m sp [] E (tVar j) t) g) tz D σ H :=
  ⟨.ref a, hj, a, dx, fs, rfl, ho, hl, by
    have e : (fun (vs : List V) (H2 : Hp) => sp (.ref a :: (vs ++ [])) H2 (fun v H2 => g v σ H2 fun σ' H' => tz D σ' H') E) = fun vs H1 => sp (.ref a :: vs) H1 (fun v H2 => g v σ H2 fun σ' H' => tz D σ' H') E := by
      funext vs H2
      rw [List.append_nil]
    show t σ H (fun (vs : List V) (H2 : Hp) => sp (.ref a :: (vs ++ [])) H2 (fun v H2 => g v σ H2 fun σ' H' => tz D σ' H') E)
    rw [e]
    exact ha⟩
theorem s_methD (hj : σ[j]? = some (some (.ref a))) (ho : H a = some (.ins C dx fs)) (hl : fs.lookup m = none) (ha : EvA t σ H vs) (k : ∀ H1, Ex H H1 → sp (.ref a :: vs) H1 (fun _ H2 => D.nx σ H2) E) : tDrop (tMeth C m sp [] E (tVar j) t) D σ H :=
  ⟨.ref a, hj, a, dx, fs, rfl, ho, hl, ha H (Ex.refl H) _ fun H1 e1 => by
    rw [List.append_nil]
    exact k H1 e1⟩
theorem ep_meth (h0 : Ev ta σ H (.ref a)) (ho : H a = some (.ins C dx fs)) (hl : fs.lookup m = none) (ha : EvA t σ H vs) (hs : ∀ H1, Ex H H1 → ∀ (Q : VK) (E : XK), (∀ v H2, Ex H1 H2 → P v H2 → Q v H2) → sp (.ref a :: vs) H1 Q E) : EvP (tMeth C m sp [] E ta t) σ H P := fun H1 e Q q =>
  h0 H1 e _ fun H2 e2 => ⟨a, dx, fs, rfl, e2 _ _ (e _ _ ho), hl, ha H2 (e.trans e2) _ fun H3 e3 => by
    rw [List.append_nil]
    exact hs H3 ((e.trans e2).trans e3) Q E fun v H4 e4 p => q v H4 ((e2.trans e3).trans e4) p⟩
theorem ev_din {d : Addr} {kvs : List (Key × V)} {k : Key} (h : Ev td σ H (.ref d)) (hy : Ev ty σ H (kV k)) (hd : H d = some (.dK kvs)) : Ev (tDIn ty td) σ H (.bl (valV kvs k).isSome) := fun H1 e Q q =>
  hy H1 e _ fun H2 e2 => h H2 (e.trans e2) _ fun H3 e3 => ⟨d, _, rfl, DGet.k (e3 _ _ (e2 _ _ (e _ _ hd))), q H3 (e2.trans e3)⟩
/-- two answers in a new tuple -/
theorem ep_tupPP {P' : V → Hp → Prop} (ha : EvP ta σ H P) (hb : ∀ H1, Ex H H1 → EvP tb σ H1 P') (mono : ∀ v H1 H2, Ex H1 H2 → P v H1 → P v H2) (mono' : ∀ v H1 H2, Ex H1 H2 → P' v H1 → P' v H2) : EvP (tTup (tCons ta (tCons tb tNil))) σ H fun v H' => ∃ q x y, v = .ref q ∧ H' q = some (.tup [x, y]) ∧ P x H' ∧ P' y H' := fun H1 e Q k =>
  ha H1 e _ fun x H2 e2 p2 => hb H2 (e.trans e2) H2 (Ex.refl _) _ fun y H3 e3 p3 => ⟨show 2 ≤ sizeLine by decide, fun q hq => k _ _ ((e2.trans e3).trans (Ex.new hq)) ⟨q, x, y, rfl, upd_same, mono _ _ _ (e3.trans (Ex.new hq)) p2, mono' _ _ _ (Ex.new hq) p3⟩⟩
end
theorem mergeK_has (k : Key) : ∀ (more kvs : List (Key × V)), (valV (mergeK kvs more) k).isSome = ((valV kvs k).isSome || (valV more k).isSome)
  | [], kvs => by rw [valV_nil]; show (valV kvs k).isSome = _; simp
  | p :: r, kvs => by
    show (valV (mergeK (putK kvs p.1 p.2) r) k).isSome = _
    rw [mergeK_has k r, valV_put]
    by_cases h : k = p.1
    · rw [if_pos h, valV_pos h.symm]; simp
    · rw [if_neg h, valV_neg (Ne.symm h)]
section
variable {P : Program} {w : World} {K : PySem.W.Frag} {mg : Str → Option Value} {base : Heap}
/-- ends that a search without let finds -/
theorem EndOk.free {tk : Nat → Option Nat} {cm : Cml} {e : Nat} (h : EndOk tk [] cm e) : (∃ t h, (e, Came.via t h) ∈ cm) ∧ tk e = none := h.elim id fun z => absurd z.2 (List.not_mem_nil)
abbrev s_greatest_pairs : Stmt := topS 26
abbrev n_greatest_pairs : List Str := ["web", "sides", "pairs", "place", "came", "end"]
theorem sc_greatest_pairs : FnScope n_greatest_pairs ["web", "sides"] (defScope s_greatest_pairs) := ⟨rfl, rfl, rfl, by decide +kernel, rfl, by decide +kernel, by decide +kernel⟩
def Greatest (C : Addr) (a : Addr) (n : Nat) (E : List K87.Tie) (s : Nat → Bool) : V → Hp → Prop := fun v H' => ∃ x nl tl as tk F, v = .ref x ∧ Pr C H' x a nl tl as n E tk ∧ K87.Mat n E tk ∧ K87.Closed n E s tk F ∧ ∀ p, p < n → s p = false → tk p = none → F p
def sp_greatest_pairs (C : Addr) : Sp := fun vs H Q _ => ∃ (a sl : Addr) (n : Nat) (E : List K87.Tie) (s : Nat → Bool), vs = [.ref a, .ref sl] ∧ Web H a n E ∧ H sl = some (.lst (sidesV n s)) ∧ K87.Two E s ∧ RetP (Greatest C a n E s) H Q
theorem ok_greatest_pairs {C : Addr} (D : DefAt K mg "greatest_pairs" s_greatest_pairs ["web", "sides"]) (T : Txt mg) (G : PrK K C) (A_Pairs : MkAt P w K mg base C 2 "Pairs" ["self", "web"] (sp_Pairs_init C)) (A_sought : MetAt P w K mg base C 3 "sought" ["self", "place", "let"] (sp_sought C)) (A_turned : MetAt P w K mg base C 1 "turned" ["self", "came", "end"] (sp_turned C)) :
    At P w K mg base 4 "greatest_pairs" ["web", "sides"] (sp_greatest_pairs C) := D.at fun f fd F => by
  refine F.ok sc_greatest_pairs (fun vs H Q E h => ?_) (fun cdv A outer s H vs Q E hr h => ?_)
  · obtain ⟨a, sl, n, E, sd, rfl, _⟩ := h
    rfl
  · obtain ⟨a, sl, n, E, sd, rfl, W, hsl, two, k⟩ := h
    have C_sought := G.cls
    have C_turned := G.cls
    refine ⟨_, (pss_cons (ps_set (i := 2) sc_greatest_pairs.nd rfl (Or.inl rfl) (pe_mkat A_Pairs (hr.mono (by decide)) (pa_cons (pv 0) pa_nil)))
      (pss_cons (ps_for PassesOwn.never rfl (pi_range1 rfl T.range (pa_cons (pe_ix ix_tup (pv 0) pe_int (fun _ _ => rfl)) pa_nil)) (pg_name (i := 3) sc_greatest_pairs.nd rfl (Or.inl rfl)) (pss_one (ps_if (pw_and (pt_cmpR op_eq (pe_ix ix_list (pv 1) (pv 3) (fun _ _ => rfl)) pe_int (nomark _)) (pw_and1 (pt_cmpR op_isN (pe_ix ix_list (pe_fld (pv 2) rfl) (pv 3) (fun _ _ => rfl)) pe_non (nomark _)))).pt (pss_cons (ps_asg (pe_metat C_sought A_sought (pv 2) (hr.mono (by decide)) (pa_cons (pv 3) (pa_cons (pe_lst pa_nil) pa_nil))) (pg_tup rfl (pgs_cons (pg_name (i := 4) sc_greatest_pairs.nd rfl (Or.inl rfl)) (pgs_cons (pg_name (i := 5) sc_greatest_pairs.nd rfl (Or.inl rfl)) pgs_nil))))
      (pss_one (ps_if (pt_cmpR op_notN (pv 5) pe_non (nomark _)) (pss_one (ps_expr (pe_metat C_turned A_turned (pv 2) (hr.mono (by decide)) (pa_cons (pv 4) (pa_cons (pv 5) pa_nil))))) pss_nil))) pss_nil)))
      (pss_one (ps_ret (pv 2))))), ?_⟩
    have hln := W.ln
    refine q_make (ea_cons (ev_var rfl) ea_nil) fun x dx H1 e1 hx hdx hne => ?_
    have M0 : Ex H1 (upd (upd H1 dx (.own x)) x (.ins C dx [])) := (Ex.new hdx).trans (Ex.new (by rw [upd_ne (Ne.symm hne)]; exact hx))
    have Mx : (upd (upd H1 dx (.own x)) x (.ins C dx [])) x = some (.ins C dx []) := upd_same
    generalize upd (upd H1 dx (.own x)) x (.ins C dx []) = G0 at M0 Mx ⊢
    refine ⟨x, dx, a, n, E, rfl, Mx, W.ex (e1.trans M0), fun G1 nl tl as fr O htl0 => ⟨rfl, ?_⟩⟩
    have ex1 : Ex H G1 := fun b o hb => by
      have h1 := e1 _ _ hb
      exact fr b o (fun z => by rw [List.mem_singleton.mp z, hx] at h1; cases h1) (M0 _ _ h1)
    have tl0 : ∀ b ∈ [tl], H b = none := fun b hb => by rw [List.mem_singleton.mp hb]; exact fresh_back (e1.trans M0) htl0
    obtain ⟨b, ts, CW⟩ := W.at_
    refine q_forR1 (ea_cons (ev_n (CW.ex ex1) (ev_var rfl)) ea_nil) (by omega) (fun i σ' H' => ∃ tk F x3 x4 x5, Ex H H' ∧ Pr C H' x a nl tl as n E tk ∧ K87.Mat n E tk ∧ K87.Closed n E sd tk F ∧ (∀ p, p < i → sd p = false → tk p = none → F p) ∧ σ' = [some (.ref a), some (.ref sl), some (.ref x), x3, x4, x5])
      (fun H2 e2 => ⟨_, fun _ => False, _, _, _, ex1.trans e2, O.ex e2, fun p t _ z => by (cases z), .none, fun p hp => absurd hp (Nat.not_lt_zero _), rfl⟩) (fun i σ' H' hi p => ?_) fun σ' H' p => ?_
    · obtain ⟨tk, F, x3, x4, x5, p1, O1, mat, cl, hF, rfl⟩ := p
      have hin : i < n := by omega
      refine s_when (b := (!sd i) && (tk i).isNone) (et_and (et_test (ev_is (ev_op (ev_op (ev_var rfl) (ev_var rfl) (rv_ixL (sq_of (p1 _ _ hsl)) (atI_nat (sidesV_get hin)))) ev_c (rv_eq rfl)) (congrArg V.bl (by cases sd i <;> decide)))) fun _ => et_isN (ev_ptk G O1 rfl (ev_var rfl) hin) (oV_non _)) (fun hb H2 e2 => ?_) (fun hb H2 e2 => ?_)
      · rw [Bool.and_eq_true] at hb
        have hs0 : sd i = false := by cases h : sd i with
          | false => rfl
          | true => rw [h] at hb; cases hb.1
        have htk : tk i = none := Option.isNone_iff_eq_none.mp hb.2
        have O2 := O1.ex e2
        obtain ⟨dx2, ho⟩ := O2.obj
        refine q_methR rfl ho rfl ⟨_, rfl, show 0 ≤ sizeLine by decide, fun la hla => ?_⟩
        have e3 := Ex.new (o := .lst []) hla
        refine sp_sought_of (E' := E0) (lt := []) (O2.ex e3) upd_same (by decide) hin htk (List.not_mem_nil) mat two fun v H4 e4 hv => ?_
        obtain ⟨q, ca, cm, rk, rfl, hca, M4, hv | hv⟩ := hv
        · obtain ⟨e, h1, C4, Ee⟩ := hv
          refine g_pair h1 ?_
          have O4 := (O2.ex e3).ex e4
          refine s_when (b := true) (et_notN (ev_var rfl) rfl) (fun _ H5 e5 => ?_) (fun z => nomatch z)
          have O5 := O4.ex e5
          obtain ⟨dx5, ho5⟩ := O5.obj
          refine s_methD rfl ho5 rfl (ea_cons (ev_var rfl) (ea_cons (ev_var rfl) ea_nil)) fun H6 e6 => ?_
          obtain ⟨⟨t, h, hm⟩, hfree⟩ := Ee.free
          have hse : sd e = true := by rw [C4.viaSide two hm, hs0]; rfl
          have nF : ¬ F e := fun z => by
            obtain ⟨t', z1, _⟩ := cl.right e z hse (C4.lt e (K87.mem_ks hm))
            rw [hfree] at z1
            cases z1
          refine ⟨x, a, nl, tl, ca, as, n, i, e, E, tk, sd, [], rk, cm, F, rfl, O5.ex e6, (M4.ex e5).ex e6, C4, Ee, mat, two, cl.out W.ok two C4 hs0, nF, fun H7 tk' f7 O7 TF => ?_⟩
          refine ⟨tk', F, _, _, _, Ex.fr (((((p1.trans e2).trans e3).trans e4).trans e5).trans e6) f7 tl0, O7, TF.mat, cl.keeps TF.fr, fun p hp hsp hn => ?_, rfl⟩
          by_cases hpi : p = i
          · rw [hpi] at hn
            exact absurd hn TF.root
          · refine hF p (by omega) hsp ?_
            cases hz : tk p with
            | none => rfl
            | some z =>
              by_cases hpe : p = e
              · rw [hpe, hfree] at hz
                cases hz
              · exact absurd hn (TF.keep p (by rw [hz]; exact fun z => by cases z) hpe)
        · obtain ⟨h1, B⟩ := hv
          refine g_pair h1 ?_
          have O4 := (O2.ex e3).ex e4
          refine s_when (b := false) (et_notN (ev_var rfl) rfl) (fun z => nomatch z) fun _ H5 e5 => ?_
          refine ⟨tk, _, _, _, _, (((p1.trans e2).trans e3).trans e4).trans e5, O4.ex e5, mat, cl.or (B.closed hs0), fun p hp hsp hn => ?_, rfl⟩
          by_cases hpi : p = i
          · rw [hpi]
            exact .inr (K87.mem_ks B.c.root)
          · exact .inl (hF p (by omega) hsp hn)
      · refine ⟨tk, F, _, _, _, p1.trans e2, O1.ex e2, mat, cl, fun p hp hsp hn => ?_, rfl⟩
        by_cases hpi : p = i
        · subst hpi
          rw [hsp, hn] at hb
          cases hb
        · exact hF p (by omega) hsp hn
    · obtain ⟨tk, F, x3, x4, x5, p1, O1, mat, cl, hF, rfl⟩ := p
      rw [show ((n : Int).toNat) = n by omega] at hF
      exact s_ret (ev_var rfl) fun H2 e2 => k _ H2 (p1.trans e2) ⟨x, nl, tl, as, tk, F, rfl, O1.ex e2, mat, cl, hF⟩
/-! cover_of -/
theorem cover_succ (i : Nat) (s : Nat → Bool) (tk : Nat → Option Nat) (Z : Nat → Bool) : K87.coverL (i + 1) s tk Z = K87.coverL i s tk Z ++ if ((tk i).isSome && (Z i == s i)) = true then [i] else [] := by
  unfold K87.coverL
  rw [List.range_succ, List.filter_append]
  congr 1
  rw [List.filter_cons]
  rfl
abbrev s_cover_of : Stmt := topS 27
abbrev n_cover_of : List Str := ["pairs", "sides", "met", "place", "side", "found"]
theorem sc_cover_of : FnScope n_cover_of ["pairs", "sides"] (defScope s_cover_of) := ⟨rfl, rfl, rfl, by decide +kernel, rfl, by decide +kernel, by decide +kernel⟩
def Cover (n : Nat) (E : List K87.Tie) (s : Nat → Bool) (tk : Nat → Option Nat) : V → Hp → Prop := fun v H' => ∃ l Z, v = .ref l ∧ H' l = some (.lst (natL (K87.coverL n s tk Z))) ∧ K87.ZOk n E s tk Z
def sp_cover_of (C : Addr) : Sp := fun vs H Q _ => ∃ (x a nl tl sl : Addr) (as : List Addr) (n : Nat) (E : List K87.Tie) (s : Nat → Bool) (tk : Nat → Option Nat) (F : Nat → Prop), vs = [.ref x, .ref sl] ∧ Pr C H x a nl tl as n E tk ∧ H sl = some (.lst (sidesV n s)) ∧ K87.Mat n E tk ∧ K87.Two E s ∧ K87.Closed n E s tk F ∧ (∀ p, p < n → s p = false → tk p = none → F p) ∧ RetP (Cover n E s tk) H Q
theorem ok_cover_of {C : Addr} (D : DefAt K mg "cover_of" s_cover_of ["pairs", "sides"]) (T : Txt mg) (G : PrK K C) (A_sought : MetAt P w K mg base C 3 "sought" ["self", "place", "let"] (sp_sought C)) : At P w K mg base 4 "cover_of" ["pairs", "sides"] (sp_cover_of C) := D.at fun f fd FF => by
  refine FF.ok sc_cover_of (fun vs H Q E h => ?_) (fun cdv A outer s H vs Q E hr h => ?_)
  · obtain ⟨x, a, nl, tl, sl, as, n, E, sd, tk, F, rfl, _⟩ := h
    rfl
  · obtain ⟨x, a, nl, tl, sl, as, n, E, sd, tk, F, rfl, O, hsl, mat, two, cl, hF, k⟩ := h
    have C_sought := G.cls
    refine ⟨_, (pss_cons (ps_set (i := 2) sc_cover_of.nd rfl (Or.inl rfl) pe_dnewK)
      (pss_cons (ps_for PassesOwn.never rfl (pi_enum (by rfl) T.enumerate (pa_cons (pv 1) pa_nil)) (pg_tup rfl (pgs_cons (pg_name (i := 3) sc_cover_of.nd rfl (Or.inl rfl)) (pgs_cons (pg_name (i := 4) sc_cover_of.nd rfl (Or.inl rfl)) pgs_nil))) (pss_one (ps_if (pw_and (pt_cmpR op_eq (pv 4) pe_int (nomark _)) (pw_and1 (pt_cmpR op_isN (pe_ix ix_list (pe_fld (pv 0) rfl) (pv 3) (fun _ _ => rfl)) pe_non (nomark _)))).pt (pss_one (ps_expr (pe_bm PySem.F.plainAttrs_dict PySem.F.slot_dict_update PySem.F.type_dict_update mt_upd (pv 2) (pa_cons (pe_ix ix_tup (pe_metat C_sought A_sought (pv 0) (hr.mono (by decide)) (pa_cons (pv 3) (pa_cons (pe_lst pa_nil) pa_nil))) pe_int (fun _ _ => rfl)) pa_nil)))) pss_nil)))
      (pss_cons (ps_set (i := 5) sc_cover_of.nd rfl (Or.inl rfl) (pe_lst pa_nil))
      (pss_cons (ps_for PassesOwn.never rfl (pi_enum (by rfl) T.enumerate (pa_cons (pv 1) pa_nil)) (pg_tup rfl (pgs_cons (pg_name (i := 3) sc_cover_of.nd rfl (Or.inl rfl)) (pgs_cons (pg_name (i := 4) sc_cover_of.nd rfl (Or.inl rfl)) pgs_nil))) (pss_one (ps_if (pw_and (pt_cmpR op_notN (pe_ix ix_list (pe_fld (pv 0) rfl) (pv 3) (fun _ _ => rfl)) pe_non (nomark _)) (pw_and1 (pt_cmpR op_eq (pe_cmp (pc_din (hu_of hr) (pv 3) (pv 2))) (pe_cmpR op_eq (pv 4) pe_int (nomark _)) (nomark _)))).pt (pss_one (ps_expr (pe_bm PySem.F.plainAttrs_list PySem.F.slot_list_append PySem.F.type_list_append mt_append (pv 5) (pa_cons (pv 3) pa_nil)))) pss_nil)))
      (pss_one (ps_ret (pv 5))))))), ?_⟩
    have hln := O.web.ln
    refine q_asgP ep_newK fun v H1 e1 hv => ?_
    obtain ⟨md, rfl, hm0, hm1⟩ := hv
    refine q_forEL (ea_cons (ev_var rfl) ea_nil) (e1 _ _ hsl) (fun i σ' H' => ∃ kvs x3 x4, Ex H H' ∧ H' md = some (.dK kvs) ∧ kvs.length ≤ i * 30 ∧ K87.Closed n E sd tk (fun p : Nat => (valV kvs (.inl (p : Int))).isSome = true) ∧ (∀ p : Nat, p < i → sd p = false → tk p = none → (valV kvs (.inl (p : Int))).isSome = true) ∧
        (∀ p t : Nat, (valV kvs (.inl (p : Int))).isSome = true → sd p = false → tk p = some t → (valV kvs (.inl ((K87.far (K87.tieN E t) p : Nat) : Int))).isSome = true) ∧ σ' = [some (.ref x), some (.ref sl), some (.ref md), x3, x4, none])
      (fun H2 e2 => ⟨[], _, _, e1.trans e2, e2 _ _ hm1, by simp, ⟨fun _ _ z => by (cases z), fun _ z => by (cases z)⟩, fun p hp => absurd hp (Nat.not_lt_zero _), fun _ _ z => by (cases z), rfl⟩) (fun i σ' H' _ p => by obtain ⟨kvs, x3, x4, p1, _⟩ := p; exact p1 _ _ hsl) (fun i v T σ' H' hx p hT => ?_) fun σ' H' p => ?_
    · obtain ⟨kvs, x3, x4, p1, hmd, hk, cl1, hF1, hm1, rfl⟩ := p
      have hin : i < n := by rw [← sidesV_len n sd]; exact (List.getElem?_eq_some_iff.mp hx).1
      rw [sidesV_get hin] at hx
      cases hx
      refine g_pair upd_same ?_
      have e0 := Ex.new (o := .tup [.int (i : Int), .int (bI (sd i))]) hT
      have p0 := p1.trans e0
      have md0 := e0 _ _ hmd
      generalize upd H' T (.tup [.int (i : Int), .int (bI (sd i))]) = G0 at e0 p0 md0 ⊢
      have O0 := O.ex p0
      refine s_when (b := (!sd i) && (tk i).isNone) (et_and (et_test (ev_is (ev_op (ev_var rfl) ev_c (rv_eq rfl)) (congrArg V.bl (by cases sd i <;> decide)))) fun _ => et_isN (ev_ptk G O0 rfl (ev_var rfl) hin) (oV_non _)) (fun hb H2 e2 => ?_) (fun hb H2 e2 => ?_)
      · rw [Bool.and_eq_true] at hb
        have hs0 : sd i = false := by cases h : sd i with
          | false => rfl
          | true => rw [h] at hb; cases hb.1
        have htk : tk i = none := Option.isNone_iff_eq_none.mp hb.2
        have O2 := O0.ex e2
        obtain ⟨dx2, ho⟩ := O2.obj
        refine ⟨.ref md, rfl, Or.inr (Or.inr (Or.inl ⟨rfl, Or.inl ⟨_, e2 _ _ md0⟩⟩)), .ref x, rfl, x, dx2, _, rfl, ho, rfl, .int (i : Int), rfl, show 0 ≤ sizeLine by decide, fun la hla => ?_⟩
        have e3 := Ex.new (o := .lst []) hla
        refine sp_sought_of (E' := E0) (lt := []) (O2.ex e3) upd_same (by decide) hin htk (List.not_mem_nil) mat two fun v H4 e4 hv => ?_
        obtain ⟨q, ca, cm, rk, rfl, hca, M4, hv | hv⟩ := hv
        · obtain ⟨e, h1, C4, Ee⟩ := hv
          obtain ⟨⟨t, h, hm⟩, hfree⟩ := Ee.free
          have hse : sd e = true := by rw [C4.viaSide two hm, hs0]; rfl
          obtain ⟨t', z1, _⟩ := cl.right e (C4.within O.web.ok hs0 cl (hF i hin hs0 htk) e (K87.mem_ks hm)) hse (C4.lt e (K87.mem_ks hm))
          rw [hfree] at z1
          cases z1
        · obtain ⟨h1, B⟩ := hv
          obtain ⟨kc, k1, k2, k3, _, _⟩ := M4.all
          have md4 := e4 _ _ (e3 _ _ (e2 _ _ md0))
          have lB := B.len
          have lm := length_mergeK kc kvs
          have ne : md ≠ ca := ne_of_none (e3 _ _ (e2 _ _ md0)) hca
          refine ⟨q, [.ref ca, .non], 0, .ref ca, rfl, rfl, st_of h1, rfl, md, ca, kvs, kc, rfl, rfl, ne, md4, k1, Nat.le_trans (show kvs.length + kc.length ≤ 100000 by omega) (by decide), ?_⟩
          have hkey : ∀ p : Nat, (valV (mergeK kvs kc) (.inl (p : Int))).isSome = true ↔ ((valV kvs (.inl (p : Int))).isSome = true ∨ p ∈ ks cm) := fun p => by
            rw [mergeK_has, k3, Bool.or_eq_true, decide_eq_true_eq]
          refine ⟨mergeK kvs kc, _, _, Ex.mut (((p0.trans e2).trans e3).trans e4) hm0, upd_same, by omega, ?_, fun p hp hsp hn => ?_, fun p t hz hsp ht => ?_, rfl⟩
          · have := cl1.or (B.closed hs0)
            exact ⟨fun y t hy h2 h3 h4 => (hkey _).mpr (this.left y t ((hkey y).mp hy) h2 h3 h4), fun y hy h2 h3 => let ⟨t, z1, z2⟩ := this.right y ((hkey y).mp hy) h2 h3; ⟨t, z1, (hkey _).mpr z2⟩⟩
          · rw [hkey]
            by_cases hpi : p = i
            · rw [hpi]
              exact .inr (K87.mem_ks B.c.root)
            · exact .inl (hF1 p (by omega) hsp hn)
          · rw [hkey] at hz ⊢
            rcases hz with hz | hz
            · exact .inl (hm1 p t hz hsp ht)
            · exact .inr (B.c.mates O.web.ok two mat hz (by rw [hsp, hs0]) ht)
      · refine ⟨kvs, _, _, p0.trans e2, e2 _ _ md0, by omega, cl1, fun p hp hsp hn => ?_, hm1, rfl⟩
        by_cases hpi : p = i
        · subst hpi
          rw [hsp, hn] at hb
          cases hb
        · exact hF1 p (by omega) hsp hn
    · obtain ⟨kvs, x3, x4, p1, hmd, hk, cl1, hF1, hm1, rfl⟩ := p
      rw [sidesV_len] at hF1
      have ZO : K87.ZOk n E sd tk (fun p => (valV kvs (.inl (p : Int))).isSome) := ⟨cl1, hF1, hm1⟩
      generalize hZ : (fun p : Nat => (valV kvs (.inl (p : Int))).isSome) = Z at ZO
      have hZp : ∀ p : Nat, (valV kvs (.inl (p : Int))).isSome = Z p := fun p => congrFun hZ p
      refine q_asgL (el_lst ea_nil (show 0 ≤ 100000 by decide)) fun fo H2 hfo e2 h2 => ?_
      have hfo0 := fresh_back p1 hfo
      have p2 := p1.trans e2
      refine q_forEL (ea_cons (ev_var rfl) ea_nil) (p2 _ _ hsl) (fun i σ' H' => ∃ x3 x4, Ex H H' ∧ H' md = some (.dK kvs) ∧ H' fo = some (.lst (natL (K87.coverL i sd tk Z))) ∧ σ' = [some (.ref x), some (.ref sl), some (.ref md), x3, x4, some (.ref fo)])
        (fun H3 e3 => ⟨_, _, p2.trans e3, e3 _ _ (e2 _ _ hmd), e3 _ _ h2, rfl⟩) (fun i σ' H' _ p => by obtain ⟨x3, x4, p1, _⟩ := p; exact p1 _ _ hsl) (fun i v T σ' H' hx p hT => ?_) fun σ' H' p => ?_
      · obtain ⟨x3, x4, p3, md3, fo3, rfl⟩ := p
        have hin : i < n := by rw [← sidesV_len n sd]; exact (List.getElem?_eq_some_iff.mp hx).1
        rw [sidesV_get hin] at hx
        cases hx
        refine g_pair upd_same ?_
        have e0 := Ex.new (o := .tup [.int (i : Int), .int (bI (sd i))]) hT
        have p0 := p3.trans e0
        have md0 := e0 _ _ md3
        have fo0 := e0 _ _ fo3
        generalize upd H' T (.tup [.int (i : Int), .int (bI (sd i))]) = G0 at e0 p0 md0 fo0 ⊢
        have O0 := O.ex p0
        refine s_when (b := (tk i).isSome && (Z i == sd i)) (et_and (et_notN (ev_ptk G O0 rfl (ev_var rfl) hin) (by rw [oV_non]; cases tk i <;> rfl)) fun _ => et_test (ev_is (ev_op (ev_din (k := .inl (i : Int)) (ev_var rfl) (ev_var rfl) md0) (ev_op (ev_var rfl) ev_c (rv_eq rfl)) (rv_eq rfl)) (congrArg V.bl (by
          rw [hZp]
          cases Z i <;> cases sd i <;> decide)))) (fun hb H4 e4 => ?_) (fun hb H4 e4 => ?_)
        · have cl' : (K87.coverL i sd tk Z).length ≤ i := by
            unfold K87.coverL
            have := List.length_filter_le (fun p => (tk p).isSome && (Z p == sd p)) (List.range i)
            rw [List.length_range] at this
            exact this
          refine s_app (e4 _ _ fo0) (ev_var rfl) (ev_var rfl) (by rw [natL_len]; omega) fun H5 e5 => ?_
          refine ⟨_, _, Ex.mut ((p0.trans e4).trans e5) hfo0, ?_, ?_, rfl⟩
          · rw [upd_ne (fun z => by rw [z, fo0] at md0; cases md0)]
            exact e5 _ _ (e4 _ _ md0)
          · rw [upd_same, cover_succ, if_pos hb, natL_app]
            rfl
        · refine ⟨_, _, p0.trans e4, e4 _ _ md0, ?_, rfl⟩
          rw [cover_succ, hb, if_neg (by decide), List.append_nil]
          exact e4 _ _ fo0
      · obtain ⟨x3, x4, p3, md3, fo3, rfl⟩ := p
        rw [sidesV_len] at fo3
        exact s_ret (ev_var rfl) fun H4 e4 => k _ H4 (p3.trans e4) ⟨fo, Z, rfl, e4 _ _ fo3, ZO⟩
end
end K87W
/-! pairings.py: pairing, full_pairing -/
namespace K87W
open PySem PySem.Spec PyProof.Rows L2 Evl K87X
open K87 (Came Cml ks)
structure PairR (n : Nat) (E : List K87.Tie) (ts cv : List Nat) : Prop where
  ris : ts.Pairwise (· < ·)
  lt : ∀ t ∈ ts, t < E.length
  apart : K87.Apart E ts
  cris : cv.Pairwise (· < ·)
  clt : ∀ p ∈ cv, p < n
  len : ts.length = cv.length
  cov : ∀ t, t < E.length → (K87.tieN E t).1 ∈ cv ∨ (K87.tieN E t).2 ∈ cv
def PairV (n : Nat) (E : List K87.Tie) : V → Hp → Prop := fun v H' => ∃ q l1 l2 ts cv, v = .ref q ∧ H' q = some (.tup [.ref l1, .ref l2]) ∧ H' l1 = some (.lst (natL ts)) ∧ H' l2 = some (.lst (natL cv)) ∧ PairR n E ts cv
section
variable {P : Program} {w : World} {K : PySem.W.Frag} {mg : Str → Option Value} {base : Heap}
abbrev s_pairing : Stmt := topS 28
abbrev n_pairing : List Str := ["web", "sides", "pairs"]
theorem sc_pairing : FnScope n_pairing ["web"] (defScope s_pairing) := ⟨rfl, rfl, rfl, by decide +kernel, rfl, by decide +kernel, by decide +kernel⟩
def sp_pairing : Sp := fun vs H Q _ => ∃ (a : Addr) (n : Nat) (E : List K87.Tie), vs = [.ref a] ∧ Web H a n E ∧ (∃ s, K87.Two E s) ∧ RetP (PairV n E) H Q
theorem sp_pairing_of {H : Hp} {a : Addr} {n : Nat} {E : List K87.Tie} (W : Web H a n E) (two : ∃ s, K87.Two E s) : ∀ H1, Ex H H1 → ∀ (Q : VK) (E' : XK), (∀ v H2, Ex H1 H2 → PairV n E v H2 → Q v H2) → sp_pairing [.ref a] H1 Q E' := fun H1 e Q _ q => ⟨a, n, E, rfl, W.ex e, two, q⟩
theorem ok_pairing {C : Addr} (D : DefAt K mg "pairing" s_pairing ["web"]) (T : Txt mg) (G : PrK K C) (A_sides_of : At P w K mg base 5 "sides_of" ["web"] sp_sides_of) (A_greatest_pairs : At P w K mg base 4 "greatest_pairs" ["web", "sides"] (sp_greatest_pairs C)) (A_ties : MetAt P w K mg base C 1 "ties" ["self"] (sp_ties C)) (A_cover_of : At P w K mg base 4 "cover_of" ["pairs", "sides"] (sp_cover_of C)) :
    At P w K mg base 6 "pairing" ["web"] sp_pairing := D.at fun f fd F => by
  refine F.ok sc_pairing (fun vs H Q E h => ?_) (fun cdv A outer s H vs Q E hr h => ?_)
  · obtain ⟨a, n, E, rfl, _⟩ := h
    rfl
  · obtain ⟨a, n, E, rfl, W, two, k⟩ := h
    have C_ties := G.cls
    refine ⟨_, (pss_cons (ps_set (i := 1) sc_pairing.nd rfl (Or.inl rfl) (pe_at A_sides_of (hr.mono (by decide)) (pa_cons (pv 0) pa_nil)))
      (pss_cons (ps_set (i := 2) sc_pairing.nd rfl (Or.inl rfl) (pe_at A_greatest_pairs (hr.mono (by decide)) (pa_cons (pv 0) (pa_cons (pv 1) pa_nil))))
      (pss_one (ps_ret (pe_tup (pa_cons (pe_metat0 C_ties A_ties (pv 2) (hr.mono (by decide))) (pa_cons (pe_at A_cover_of (hr.mono (by decide)) (pa_cons (pv 2) (pa_cons (pv 1) pa_nil))) pa_nil))))))), ?_⟩
    refine q_asgP (ep_call (P := fun v H2 => ∃ l, v = .ref l ∧ Sided n E l H2) (ea_cons (ev_var rfl) ea_nil) (sp_sides_of_of W two)) fun v H1 e1 hv => ?_
    obtain ⟨sl, rfl, sd, hsl, two'⟩ := hv
    refine q_asgP (ep_call (P := Greatest C a n E sd) (ea_cons (ev_var rfl) (ea_cons (ev_var rfl) ea_nil)) fun H2 e2 Q _ q => ⟨a, sl, n, E, sd, rfl, (W.ex e1).ex e2, e2 _ _ hsl, two', q⟩) fun v H2 e2 hv => ?_
    obtain ⟨x, nl, tl, as, tk, FF, rfl, O, mat, cl, hF⟩ := hv
    obtain ⟨dx, ho⟩ := O.obj
    refine s_retP (ep_tupPP (P := TakenL H2 n tk) (P' := Cover n E sd tk) (ep_meth (ev_var rfl) ho rfl ea_nil fun H3 e3 Q _ q => ⟨x, a, nl, tl, as, n, E, tk, rfl, O.ex e3, fun v H4 e4 p => q v H4 e4 (p.back e3)⟩) (fun H3 e3 => ep_call (ea_cons (ev_var rfl) (ea_cons (ev_var rfl) ea_nil)) fun H4 e4 Q _ q => ⟨x, a, nl, tl, sl, as, n, E, sd, tk, FF, rfl, (O.ex e3).ex e4, e4 _ _ (e3 _ _ (e2 _ _ hsl)), mat, two', cl, hF, q⟩)
      (fun v H1 H2 e h => by obtain ⟨l, ts, h1, hf, h2, h3⟩ := h; exact ⟨l, ts, h1, hf, e _ _ h2, h3⟩) (fun v H1 H2 e h => by obtain ⟨l, Z, h1, h2, h3⟩ := h; exact ⟨l, Z, h1, e _ _ h2, h3⟩)) fun v H3 e3 hv => ?_
    obtain ⟨q, y1, y2, rfl, hq, ⟨l1, ts, rfl, _, h1, TO⟩, ⟨l2, Z, rfl, h2, ZO⟩⟩ := hv
    exact k _ H3 ((e1.trans e2).trans e3) ⟨q, l1, l2, ts, _, rfl, hq, h1, h2, TO.ris, fun t ht => TO.lt mat ht, TO.apart O.web.ok mat, K87.cover_ris Z, fun p hp => (K87.mem_cover.mp hp).1, ZO.length O.web.ok two' mat TO, fun t ht => ZO.covers O.web.ok two' ht⟩
/-! full_pairing -/
abbrev s_full_pairing : Stmt := topS 29
abbrev n_full_pairing : List Str := ["web", "most", "pairs", "let", "place", "came", "end"]
theorem sc_full_pairing : FnScope n_full_pairing ["web"] (defScope s_full_pairing) := ⟨rfl, rfl, rfl, by decide +kernel, rfl, by decide +kernel, by decide +kernel⟩
def FullV (n : Nat) (E : List K87.Tie) : V → Hp → Prop := fun v H' => ∃ l ts, v = .ref l ∧ H' l = some (.lst (natL ts)) ∧ K87.FullP n E ts
def FullVF (H0 : Hp) (n : Nat) (E : List K87.Tie) : V → Hp → Prop := fun v H' => ∃ l ts, v = .ref l ∧ H0 l = none ∧ H' l = some (.lst (natL ts)) ∧ K87.FullP n E ts
def sp_full_pairing : Sp := fun vs H Q _ => ∃ (a : Addr) (n : Nat) (E : List K87.Tie), vs = [.ref a] ∧ Web H a n E ∧ (∃ s, K87.Two E s) ∧ RetP (FullVF H n E) H Q
theorem sp_full_pairing_of {H : Hp} {a : Addr} {n : Nat} {E : List K87.Tie} (W : Web H a n E) (two : ∃ s, K87.Two E s) : ∀ H1, Ex H H1 → ∀ (Q : VK) (E' : XK), (∀ v H2, Ex H1 H2 → FullV n E v H2 → Q v H2) → sp_full_pairing [.ref a] H1 Q E' := fun H1 e Q _ q => ⟨a, n, E, rfl, W.ex e, two, fun v H2 e2 ⟨l, ts, h1, _, h2, h3⟩ => q v H2 e2 ⟨l, ts, h1, h2, h3⟩⟩
theorem sp_full_pairing_fr {H : Hp} {a : Addr} {n : Nat} {E : List K87.Tie} (W : Web H a n E) (two : ∃ s, K87.Two E s) : ∀ H1, Ex H H1 → ∀ (Q : VK) (E' : XK), (∀ v H2, Ex H1 H2 → FullVF H n E v H2 → Q v H2) → sp_full_pairing [.ref a] H1 Q E' := fun H1 e Q _ q => ⟨a, n, E, rfl, W.ex e, two, fun v H2 e2 ⟨l, ts, h1, hf, h2, h3⟩ => q v H2 e2 ⟨l, ts, h1, fresh_back e hf, h2, h3⟩⟩
theorem ok_full_pairing {C : Addr} (D : DefAt K mg "full_pairing" s_full_pairing ["web"]) (T : Txt mg) (G : PrK K C) (A_sides_of : At P w K mg base 5 "sides_of" ["web"] sp_sides_of) (A_most_at : At P w K mg base 2 "most_at" ["web"] sp_most_at) (A_count_at : At P w K mg base 4 "count_at" ["web", "place"] sp_count_at)
    (A_Pairs : MkAt P w K mg base C 2 "Pairs" ["self", "web"] (sp_Pairs_init C)) (A_sought : MetAt P w K mg base C 3 "sought" ["self", "place", "let"] (sp_sought C)) (A_turned : MetAt P w K mg base C 1 "turned" ["self", "came", "end"] (sp_turned C)) (A_ties : MetAt P w K mg base C 1 "ties" ["self"] (sp_ties C)) :
    At P w K mg base 6 "full_pairing" ["web"] sp_full_pairing := D.at fun f fd F => by
  refine F.ok sc_full_pairing (fun vs H Q E h => ?_) (fun cdv A outer s H vs Q E hr h => ?_)
  · obtain ⟨a, n, E, rfl, _⟩ := h
    rfl
  · obtain ⟨a, n, E, rfl, W, two, k⟩ := h
    have C_ties := G.cls
    have C_sought := G.cls
    have C_turned := G.cls
    refine ⟨_, (pss_cons (ps_expr (pe_at A_sides_of (hr.mono (by decide)) (pa_cons (pv 0) pa_nil)))
      (pss_cons (ps_set (i := 1) sc_full_pairing.nd rfl (Or.inr rfl) (pe_at A_most_at (hr.mono (by decide)) (pa_cons (pv 0) pa_nil)))
      (pss_cons (ps_set (i := 2) sc_full_pairing.nd rfl (Or.inl rfl) (pe_mkat A_Pairs (hr.mono (by decide)) (pa_cons (pv 0) pa_nil)))
      (pss_cons (ps_setLc (i := 3) (own := [("place", 4)]) rfl sc_full_pairing.nd rfl rfl (sw_true rfl rfl rfl (by decide +kernel)) (pi_range1 rfl T.range (pa_cons (pe_ix ix_tup (pv 0) pe_int (fun _ _ => rfl)) pa_nil)) (blkOk_by (own := [("place", 4)]) (N := n_full_pairing) (sc := defScope s_full_pairing) (by decide +kernel)) (fun _ _ _ _ _ => (pg_name (i := 4) sc_full_pairing.nd rfl (Or.inl rfl))) (fun _ _ _ _ _ => pts_one (pt_cmpR op_lt (pe_at A_count_at (hr.mono (by decide)) (pa_cons (pv 0) (pa_cons (pv 4) pa_nil))) (pv 1) (nomark _))) (fun _ _ _ _ _ => (pv 4)))
      (pss_cons (ps_for PassesOwn.never rfl (pi_range1 rfl T.range (pa_cons (pe_ix ix_tup (pv 0) pe_int (fun _ _ => rfl)) pa_nil)) (pg_name (i := 4) sc_full_pairing.nd rfl (Or.inl rfl)) (pss_one (ps_if (pw_and (pt_cmpR op_gt (pv 1) pe_int (nomark _)) (pw_and (pt_cmpR op_notIn_seq (pv 4) (pv 3) (by rfl)) (pw_and1 (pt_cmpR op_isN (pe_ix ix_list (pe_fld (pv 2) rfl) (pv 4) (fun _ _ => rfl)) pe_non (nomark _))))).pt (pss_cons (ps_asg (pe_metat C_sought A_sought (pv 2) (hr.mono (by decide)) (pa_cons (pv 4) (pa_cons (pv 3) pa_nil))) (pg_tup rfl (pgs_cons (pg_name (i := 5) sc_full_pairing.nd rfl (Or.inl rfl)) (pgs_cons (pg_name (i := 6) sc_full_pairing.nd rfl (Or.inl rfl)) pgs_nil))))
      (pss_one (ps_expr (pe_metat C_turned A_turned (pv 2) (hr.mono (by decide)) (pa_cons (pv 5) (pa_cons (pv 6) pa_nil)))))) pss_nil)))
      (pss_one (ps_ret (pe_metat0 C_ties A_ties (pv 2) (hr.mono (by decide)))))))))), ?_⟩
    have hln := W.ln
    refine q_dropP (ep_call (P := fun v H2 => ∃ l, v = .ref l ∧ Sided n E l H2) (ea_cons (ev_var rfl) ea_nil) (sp_sides_of_of W two)) fun v H1 e1 hv => ?_
    obtain ⟨sd, two'⟩ := two
    have W1 := W.ex e1
    refine q_asg (ev_call (ea_cons (ev_var rfl) ea_nil) (sv_most_at W1)) fun H2 e2 => ?_
    refine q_make (ea_cons (ev_var rfl) ea_nil) fun x dx H3 e3 hx hdx hne => ?_
    have M0 : Ex H3 (upd (upd H3 dx (.own x)) x (.ins C dx [])) := (Ex.new hdx).trans (Ex.new (by rw [upd_ne (Ne.symm hne)]; exact hx))
    have Mx : (upd (upd H3 dx (.own x)) x (.ins C dx [])) x = some (.ins C dx []) := upd_same
    generalize upd (upd H3 dx (.own x)) x (.ins C dx []) = G0 at M0 Mx ⊢
    have e13 := (e1.trans e2).trans e3
    refine ⟨x, dx, a, n, E, rfl, Mx, W.ex (e13.trans M0), fun G1 nl tl as fr O htl0 => ⟨rfl, ?_⟩⟩
    have ex1 : Ex H G1 := fun b o hb => by
      have h1 := e13 _ _ hb
      exact fr b o (fun z => by rw [List.mem_singleton.mp z, hx] at h1; cases h1) (M0 _ _ h1)
    have tl0 : ∀ b ∈ [tl], H b = none := fun b hb => by rw [List.mem_singleton.mp hb]; exact fresh_back (e13.trans M0) htl0
    obtain ⟨b, ts, CW⟩ := W.at_
    have W2 := W.ex ex1
    refine q_asgL (xs := natL ((List.range n).filter fun p => decide (K87.deg E p < K87.mostAt n E))) (el_is (el_lcR1 (n := (n : Int)) (fun p => decide (K87.deg E p < K87.mostAt n E)) (fun (p : Nat) => .int (p : Int)) (ea_cons (ev_n (CW.ex ex1) (ev_var rfl)) ea_nil) (by omega) (fun x => rfl) (fun i H4 e4 hi => ?_) (fun i H4 e4 hi _ => ev_var rfl)) ?_) fun la H4 hla e4 h4 => ?_
    · refine et_test (ev_is (ev_op (ev_call (ea_cons (ev_var rfl) (ea_cons (ev_var rfl) ea_nil)) (sv_count_at (W2.ex e4) (by omega))) (ev_var rfl) rv_I0) (congrArg V.bl (decide_eq_decide.mpr (by omega))))
    · rw [show ((n : Int).toNat) = n by omega]
      rfl
    have hlm : ∀ p, p ∈ ((List.range n).filter fun p => decide (K87.deg E p < K87.mostAt n E)) ↔ p < n ∧ K87.deg E p < K87.mostAt n E := fun p => by
      rw [List.mem_filter, List.mem_range, decide_eq_true_eq]
    have hlz : ((List.range n).filter fun p => decide (K87.deg E p < K87.mostAt n E)).length ≤ 1000 := by
      have := List.length_filter_le (fun p => decide (K87.deg E p < K87.mostAt n E)) (List.range n)
      rw [List.length_range] at this
      omega
    generalize ((List.range n).filter fun p => decide (K87.deg E p < K87.mostAt n E)) = lt at h4 hlm hlz
    have hla0 := fresh_back ex1 hla
    have ex4 := ex1.trans e4
    have latl : la ≠ tl := fun z => by
      rw [z, O.taken] at hla
      cases hla
    refine q_forR1 (ea_cons (ev_n (CW.ex ex4) (ev_var rfl)) ea_nil) (by omega) (fun i σ' H' => ∃ tk x4 x5 x6, Ex H H' ∧ H' la = some (.lst (natL lt)) ∧ Pr C H' x a nl tl as n E tk ∧ K87.Mat n E tk ∧ (∀ p, p < i → p ∉ lt → 0 < K87.mostAt n E → tk p ≠ none) ∧ σ' = [some (.ref a), some (.int (K87.mostAt n E : Nat)), some (.ref x), some (.ref la), x4, x5, x6])
      (fun H5 e5 => ⟨_, _, _, _, ex4.trans e5, e5 _ _ h4, (O.ex e4).ex e5, fun p t _ z => by (cases z), fun p hp => absurd hp (Nat.not_lt_zero _), rfl⟩) (fun i σ' H' hi p => ?_) fun σ' H' p => ?_
    · obtain ⟨tk, x4, x5, x6, p1, la1, O1, mat, hF, rfl⟩ := p
      have hin : i < n := by omega
      refine s_when (b := decide (0 < K87.mostAt n E) && (!(decide (i ∈ lt)) && (tk i).isNone)) (et_and (et_test (ev_is (ev_op (ev_var rfl) ev_c rv_I0) (congrArg V.bl (decide_eq_decide.mpr (by omega))))) fun _ => et_and (et_test (ev_is (ev_op (ev_var rfl) (ev_var rfl) (rv_niL (sq_of la1) rfl (natL_flat _))) (congrArg (fun c => V.bl (!c)) (inV_natL _ _)))) fun _ => et_isN (ev_ptk G O1 rfl (ev_var rfl) hin) (oV_non _)) (fun hb H5 e5 => ?_) (fun hb H5 e5 => ?_)
      · rw [Bool.and_eq_true, Bool.and_eq_true, decide_eq_true_eq, Bool.not_eq_true', decide_eq_false_iff_not] at hb
        obtain ⟨hm, hil, hb3⟩ := hb
        have htk : tk i = none := Option.isNone_iff_eq_none.mp hb3
        have O5 := O1.ex e5
        obtain ⟨dx5, ho⟩ := O5.obj
        refine q_meth rfl ho rfl (ea_cons (ev_var rfl) (ea_cons (ev_var rfl) ea_nil)) fun H6 e6 => ?_
        refine sp_sought_of (E' := E0) (lt := lt) (O5.ex e6) (e6 _ _ (e5 _ _ la1)) hlz hin htk hil mat two' fun v H7 e7 hv => ?_
        obtain ⟨q, ca, cm, rk, rfl, hca, M7, hv | hv⟩ := hv
        · obtain ⟨e, h1, C7, Ee⟩ := hv
          refine g_pair h1 ?_
          have O7 := (O5.ex e6).ex e7
          obtain ⟨dx7, ho7⟩ := O7.obj
          refine s_methD rfl ho7 rfl (ea_cons (ev_var rfl) (ea_cons (ev_var rfl) ea_nil)) fun H8 e8 => ?_
          refine ⟨x, a, nl, tl, ca, as, n, i, e, E, tk, sd, lt, rk, cm, _, rfl, O7.ex e8, M7.ex e8, C7, Ee, mat, two', .none, fun z => z, fun H9 tk' f9 O9 TF => ?_⟩
          refine ⟨tk', _, _, _, Ex.fr ((((p1.trans e5).trans e6).trans e7).trans e8) f9 tl0, f9 _ _ (fun z => latl (List.mem_singleton.mp z)) (e8 _ _ (e7 _ _ (e6 _ _ (e5 _ _ la1)))), O9, TF.mat, fun p hp hpl hm => ?_, rfl⟩
          by_cases hpi : p = i
          · rw [hpi]
            exact TF.root
          · have h0 := hF p (by omega) hpl hm
            refine TF.keep p h0 fun z => ?_
            rcases Ee with ⟨_, hfree⟩ | ⟨_, hin'⟩
            · rw [z] at h0
              exact h0 hfree
            · rw [z] at hpl
              exact hpl hin'
        · obtain ⟨h1, B⟩ := hv
          refine (B.counted O.web.ok two' hm (fun p hp => K87.deg_le_most hp) (fun p hp hpl => ?_)).elim
          have h2 := K87.deg_le_most (E := E) hp
          by_cases h3 : K87.deg E p < K87.mostAt n E
          · exact absurd ((hlm p).mpr ⟨hp, h3⟩) hpl
          · omega
      · refine ⟨tk, _, _, _, p1.trans e5, e5 _ _ la1, O1.ex e5, mat, fun p hp hpl hm => ?_, rfl⟩
        by_cases hpi : p = i
        · subst hpi
          rw [decide_eq_true hm, decide_eq_false hpl] at hb
          intro hn
          rw [hn] at hb
          cases hb
        · exact hF p (by omega) hpl hm
    · obtain ⟨tk, x4, x5, x6, p1, la1, O1, mat, hF, rfl⟩ := p
      rw [show ((n : Int).toNat) = n by omega] at hF
      obtain ⟨dx5, ho⟩ := O1.obj
      refine s_retP (ep_meth (P := TakenL H' n tk) (ev_var rfl) ho rfl ea_nil fun H3 e3 Q _ q => ⟨x, a, nl, tl, as, n, E, tk, rfl, O1.ex e3, fun v H4 e4 p => q v H4 e4 (p.back e3)⟩) fun v H5 e5 hv => ?_
      obtain ⟨l, ts, rfl, hf, h1, TO⟩ := hv
      exact k _ H5 (p1.trans e5) ⟨l, ts, rfl, fresh_back p1 hf, h1, .of O.web.ok mat TO fun p hp hd hm => hF p hp (fun z => by have := ((hlm p).mp z).2; omega) hm⟩
end
end K87W
/-! pairings.py: are_rising, shows_pairing -/
namespace K87W
open PySem PySem.Spec PyProof.Rows L2 Evl K87X
section
variable {K : PySem.W.Frag} {σ : L2.St} {H H' : Hp} {ta tb te tl : TE} {t : TT} {xs ys : List V} {vs : List Nat} {g : TG}
/-- over two lists side by side -/
theorem el_lcZ {ta : TA} {a : Addr} {i1 i2 : Nat} (f : Nat → Bool) (v : Nat → V) (n : Nat) (h : ∀ H0, Ex H H0 → ∀ Q : List V → Hp → Prop, (∀ b H1, Ex H0 H1 → H1 b = some (.lst ys) → Q [.ref a, .ref b] H1) → ta σ H0 Q) (hx : H a = some (.lst xs)) (hn : n = min xs.length ys.length) (hz : n ≤ 40000) (hw : ∀ x y, wipe (((wipe σ vs).set i1 (some x)).set i2 (some y)) vs = wipe σ vs)
    (ht : ∀ (i : Nat) (x y : V) H1, Ex H H1 → xs[i]? = some x → ys[i]? = some y → EvT t (((wipe σ vs).set i1 (some x)).set i2 (some y)) H1 (f i)) (he : ∀ (i : Nat) (x y : V) H1, Ex H H1 → xs[i]? = some x → ys[i]? = some y → f i = true → Ev te (((wipe σ vs).set i1 (some x)).set i2 (some y)) H1 (v i)) :
    EvL (tLc (iZip K ta) (gTup K 2 (gCons (gName i1) (gCons (gName i2) gNil))) t te vs) σ H (given n f v) := fun H0 e Q q => h H0 e _ fun b H1 e1 hb => ⟨a, b, xs, ys, rfl, sq_of ((e.trans e1) _ _ hx), sq_of hb, fun Dl hD =>
  lc_it (walk_zip hn) (Cw H1 f v Dl) ⟨hD, Ex.new hD, upd_same⟩ (fun i H' _ p => ⟨sq_of (p.2.1 _ _ ((e.trans e1) _ _ hx)), sq_of (p.2.1 _ _ hb)⟩) (fun i x Hc H' hi p y => by
    obtain ⟨T, x1, x2, rfl, hT, rfl, e3, e4⟩ := y
    exact g_pair (K := K) upd_same ⟨hw _ _, cw_turn (Cw.more p (Ex.new hT)) (by omega) (ht i x1 x2 H1 (e.trans e1) e3 e4) (fun hf => he i x1 x2 H1 (e.trans e1) e3 e4 hf)⟩) (fun H' p => q Dl H' (fresh_back e1 p.1) (e1.trans p.2.1) p.2.2)⟩
theorem ev_all {bs : List Bool} (h : EvL ta σ H (bs.map V.bl)) : Ev (tCB (rAll K) (tCons ta tNil)) σ H (.bl (bs.all id)) := fun H1 e Q q =>
  h H1 e _ fun p H2 hp e2 h2 => ⟨p, bs, rfl, sq_of h2, q H2 e2⟩
theorem ev_any {bs : List Bool} (h : EvL ta σ H (bs.map V.bl)) : Ev (tCB (rAny K) (tCons ta tNil)) σ H (.bl (bs.any id)) := fun H1 e Q q =>
  h H1 e _ fun p H2 hp e2 h2 => ⟨p, bs, rfl, sq_of h2, q H2 e2⟩
/-- all of a comprehension all of whose items are True -/
theorem ev_allT {n : Nat} (h : EvL ta σ H (given n (fun _ => true) fun _ => .bl true)) : Ev (tCB (rAll K) (tCons ta tNil)) σ H (.bl true) := by
  have e : given n (fun _ => true) (fun _ => V.bl true) = (List.replicate n true).map V.bl := by
    rw [given_all, List.map_replicate]
    apply List.ext_getElem?
    intro i
    by_cases hi : i < n
    · simp [hi]
    · simp [hi]
  rw [e] at h
  exact ev_is (ev_all h) (by congr 1; rw [List.all_eq_true]; intro x hx; rw [(List.mem_replicate.mp hx).2]; rfl)
theorem ev_anyF {n : Nat} (h : EvL ta σ H (given n (fun _ => true) fun _ => .bl false)) : Ev (tCB (rAny K) (tCons ta tNil)) σ H (.bl false) := by
  have e : given n (fun _ => true) (fun _ => V.bl false) = (List.replicate n false).map V.bl := by
    rw [given_all, List.map_replicate]
    apply List.ext_getElem?
    intro i
    by_cases hi : i < n
    · simp [hi]
    · simp [hi]
  rw [e] at h
  refine ev_is (ev_any h) (congrArg V.bl ?_)
  rw [List.any_eq_false]
  intro x hx
  rw [(List.mem_replicate.mp hx).2]
  decide
theorem et_yes : EvT tYes σ H true := fun H1 _ Q q => q H1 (Ex.refl _)
theorem rc_isiL {l : Addr} {T : String} {r : Bool} (hl : H l = some (.lst xs)) (h : PySem.W.kitOne K (.type "list") (.type T) = some r) : RC (rIsi K) [.ref l, .ty T] H (.bl r) := fun H1 e Q q => ⟨.ref l, .ty T, .type "list", .type T, r, rfl, .ty T, .base (.lst (e _ _ hl)), h, q H1 (Ex.refl H1)⟩
theorem rc_isiT {l : Addr} {T : String} {r : Bool} (hl : H l = some (.tup xs)) (h : PySem.W.kitOne K (.type "tuple") (.type T) = some r) : RC (rIsi K) [.ref l, .ty T] H (.bl r) := fun H1 e Q q => ⟨.ref l, .ty T, .type "tuple", .type T, r, rfl, .ty T, .base (.tup (e _ _ hl)), h, q H1 (Ex.refl H1)⟩
/-- isinstance(a list, (list, tuple)) -/
theorem ev_isiLT {l : Addr} (h0 : Ev ta σ H (.ref l)) (hl : H l = some (.lst xs)) : Ev (tCB (rIsiT K) (tCons ta (tCons (tTup (tCons (tC (.ty "list")) (tCons (tC (.ty "tuple")) tNil))) tNil))) σ H (.bl true) := fun H1 e Q q =>
  h0 H1 e _ fun H2 e2 => ⟨show 2 ≤ sizeLine by decide, fun p hp => ⟨.ref l, p, _, .type "list", [.type "list", .type "tuple"], true, rfl, upd_same, .cons (.ty _) (.cons (.ty _) .nil), .base (.lst (Ex.new hp _ _ (e2 _ _ (e _ _ hl)))), by
    unfold PySem.W.kitAny
    rfl, q _ (e2.trans (Ex.new hp))⟩⟩
end
section
variable {P : Program} {w : World} {K : PySem.W.Frag} {mg : Str → Option Value} {base : Heap}
abbrev s_are_rising : Stmt := topS 30
abbrev n_are_rising : List Str := ["thing", "below", "one", "other"]
theorem sc_are_rising : FnScope n_are_rising ["thing", "below"] (defScope s_are_rising) := ⟨rfl, rfl, rfl, by decide +kernel, rfl, by decide +kernel, by decide +kernel⟩
def sp_are_rising : Sp := fun vs H Q _ => ∃ (l : Addr) (ts : List Nat) (m : Nat), vs = [.ref l, .int m] ∧ H l = some (.lst (natL ts)) ∧ ts.length ≤ 1000 ∧ ts.Pairwise (· < ·) ∧ (∀ t ∈ ts, t < m) ∧ RetV (.bl true) H Q
theorem sv_are_rising {H : Hp} {l : Addr} {ts : List Nat} {m : Nat} (hl : H l = some (.lst (natL ts))) (hz : ts.length ≤ 1000) (hp : ts.Pairwise (· < ·)) (hm : ∀ t ∈ ts, t < m) : SpV sp_are_rising [.ref l, .int m] H (.bl true) := fun H1 e Q q _ => ⟨l, ts, m, rfl, e _ _ hl, hz, hp, hm, fun H2 e2 => q H2 e2⟩
theorem ok_are_rising (D : DefAt K mg "are_rising" s_are_rising ["thing", "below"]) (T : Txt mg) : At P w K mg base 1 "are_rising" ["thing", "below"] sp_are_rising := D.at fun f fd F => by
  refine F.ok sc_are_rising (fun vs H Q E h => ?_) (fun cdv A outer s H vs Q E hr h => ?_)
  · obtain ⟨l, ts, m, rfl, _⟩ := h
    rfl
  · obtain ⟨l, ts, m, rfl, hl, hz, hp, hm, k⟩ := h
    refine ⟨_, (pss_cons (ps_if (pt_not (pt_val (pe_callB call_isiT (by rfl) T.isinstance (by decide +kernel) (pa_cons (pv 0) (pa_cons (pe_tup (pa_cons (pe_bltn (v := .ty "list") (by rfl) T.list (by decide +kernel) rfl) (pa_cons (pe_bltn (v := .ty "tuple") (by rfl) T.tuple (by decide +kernel) rfl) pa_nil))) pa_nil))))) (pss_one (ps_ret pe_bl)) pss_nil)
      (pss_cons (ps_if (pt_not (pt_val (pe_callB (cr_all rfl) (by rfl) T.all (by decide +kernel) (pa_cons (pe_lc (own := [("one", 2)]) rfl sc_are_rising.nd (pi_list (pv 0)) (blkOk_by (own := [("one", 2)]) (N := n_are_rising) (sc := defScope s_are_rising) (by decide +kernel)) (fun _ _ _ _ _ => (pg_name (i := 2) sc_are_rising.nd rfl (Or.inl rfl))) (fun _ _ _ _ _ => pts_nil) (fun _ _ _ _ _ => (pe_and (pe_callB (r := rIsi K) call_isi (by rfl) T.isinstance (by decide +kernel) (pa_cons (pv 2) (pa_cons (pe_bltn (v := .ty "int") (by rfl) T.int (by decide +kernel) rfl) pa_nil))) (pe_and (pe_not (pe_callB (r := rIsi K) call_isi (by rfl) T.isinstance (by decide +kernel) (pa_cons (pv 2) (pa_cons (pe_bltn (v := .ty "bool") (by rfl) T.bool (by decide +kernel) rfl) pa_nil)))) (pe_one (pe_chain op_le op_lt pe_int (pv 2) (pv 1))))))) pa_nil)))) (pss_one (ps_ret pe_bl)) pss_nil)
      (pss_one (ps_ret (pe_callB (cr_all rfl) (by rfl) T.all (by decide +kernel) (pa_cons (pe_lc (own := [("one", 2), ("other", 3)]) rfl sc_are_rising.nd (pi_zip (by rfl) T.zip (pa_cons (pv 0) (pa_cons (pe_slice sl_list (pv 0) (po_some pe_int) po_none) pa_nil))) (blkOk_by (own := [("one", 2), ("other", 3)]) (N := n_are_rising) (sc := defScope s_are_rising) (by decide +kernel)) (fun _ _ _ _ _ => (pg_tupK (K := K) (n := 2) rfl rfl (pgs_cons (pg_name (i := 2) sc_are_rising.nd rfl (Or.inl rfl)) (pgs_cons (pg_name (i := 3) sc_are_rising.nd rfl (Or.inl rfl)) pgs_nil)))) (fun _ _ _ _ _ => pts_nil) (fun _ _ _ _ _ => (pe_cmpR op_lt (pv 2) (pv 3) (nomark _)))) pa_nil)))))), ?_⟩
    refine q_when (b := false) (et_not (a := true) (et_B (ev_isiLT (ev_var rfl) hl))) (fun z => nomatch z) fun _ H1 e1 => ?_
    have l1 := e1 _ _ hl
    refine q_when (b := false) (et_not (a := true) (et_B (ev_allT (el_lcL (fun _ => true) (fun _ => .bl true) (ev_var rfl) (sq_of l1) (by rw [natL_len]; omega) (fun _ => rfl) (fun i x H2 e2 hx => et_yes) (fun i x H2 e2 hx _ => ?_))))) (fun z => nomatch z) fun _ H2 e2 => ?_
    · obtain ⟨hi, rfl⟩ := natL_of hx
      have := hm _ (getD_mem' hi)
      exact ev_andV (a := true) (b := true) (ev_cb (ea_cons (ev_var rfl) (ea_cons ev_c ea_nil)) (rc_isInt (by decide +kernel))) fun _ => ev_andV (a := true) (b := true) (ev_notV (a := false) (ev_cb (ea_cons (ev_var rfl) (ea_cons ev_c ea_nil)) (rc_isInt (by decide +kernel)))) fun _ => ev_chain (a := true) (b := true) ev_c (ev_var rfl) (by rw [← decide_eq_true (show (0 : Int) ≤ (ts.getD i 0 : Nat) by omega)]; exact rv_I0) fun _ => ⟨_, ev_var rfl, by rw [← decide_eq_true (show ((ts.getD i 0 : Nat) : Int) < (m : Int) by omega)]; exact rv_I0⟩
    · have l2 := e2 _ _ l1
      have hcut : cutV (natL ts) (some 1) none = natL (ts.drop 1) := by
        cases ts with
        | nil => rfl
        | cons a r =>
          have h1 : HT.sIx (natL (a :: r)).length 0 (some 1) = 1 := by
            rw [show (1 : Int) = ((1 : Nat) : Int) from rfl, HT.sIx_nat, natL_len, List.length_cons]
            omega
          unfold cutV
          rw [h1, HT.sIx_none]
          show (natL r).take _ = natL r
          rw [List.take_of_length_le]
          rw [natL_len, natL_len, List.length_cons]
          omega
      refine s_ret (ev_allT (el_lcZ (ys := natL (ts.drop 1)) (fun _ => true) (fun _ => .bl true) (ts.length - 1) (fun H0 e0 Q q => ⟨.ref l, rfl, el_sl (K := K) (ev_var (σ := start n_are_rising [.ref l, .int m]) (i := 0) rfl) (eo_some ev_c) eo_none (sq_of (e0 _ _ l2)) H0 (Ex.refl _) _ fun p H1 hp e1 h1 => q p H1 e1 (by rw [h1, hcut])⟩) l2 (by rw [natL_len, natL_len, List.length_drop]; omega) (by omega) (fun _ _ => rfl) (fun i x y H3 e3 hx hy => et_yes) (fun i x y H3 e3 hx hy _ => ?_))) fun H3 e3 => k H3 ((e1.trans e2).trans e3)
      obtain ⟨hi, rfl⟩ := natL_of hx
      obtain ⟨hj, rfl⟩ := natL_of hy
      rw [List.length_drop] at hj
      have e1 : (ts.drop 1).getD i 0 = ts.getD (i + 1) 0 := by rw [List.getD_eq_getElem?_getD, List.getElem?_drop, Nat.add_comm 1 i, ← List.getD_eq_getElem?_getD]
      have h1 := List.pairwise_iff_getElem.mp hp i (i + 1) hi (by omega) (Nat.lt_succ_self _)
      rw [e1]
      refine ev_is (ev_op (ev_var rfl) (ev_var rfl) rv_I0) (congrArg V.bl (decide_eq_true ?_))
      rw [List.getD_eq_getElem?_getD, List.getElem?_eq_getElem hi, List.getD_eq_getElem?_getD, List.getElem?_eq_getElem (by omega)]
      show ((ts[i] : Nat) : Int) < ((ts[i + 1] : Nat) : Int)
      omega
theorem q_extT {K : PySem.W.Frag} {σ : L2.St} {H : Hp} {ta te : TE} {D : Ends} {l b : Addr} {xs ys : List V} (hl : H l = some (.lst xs)) (hb : H b = some (.tup ys)) (ha : Ev ta σ H (.ref l)) (h : Ev te σ H (.ref b)) (hz : xs.length + ys.length ≤ 100000) (q : ∀ H1, Ex H H1 → D.nx σ (upd H1 l (.lst (xs ++ ys)))) : tDrop (tBM K "list" K87X.rExtT ta (tCons te tNil)) D σ H :=
  ha H (Ex.refl H) _ fun H1 e1 => ⟨Or.inl ⟨rfl, _, sq_of (e1 _ _ hl)⟩, h H1 e1 _ fun H2 e2 => ⟨l, b, xs, ys, rfl, rfl, e2 _ _ (e1 _ _ hl), e2 _ _ (e1 _ _ hb), sz_of hz, q H2 (e1.trans e2)⟩⟩
/-- len(set(xs)) of numbers that are all different -/
theorem ev_lenSet {w : World} {K : PySem.W.Frag} {σ : L2.St} {H : Hp} {ta : TE} {l : Addr} {L : List Nat} (h : Ev ta σ H (.ref l)) (hl : H l = some (.lst (natL L))) (hd : L.Nodup) (hz : L.length ≤ 1000) : Ev (tCB (K87X.rLenSet w) (tCons (tCB (K87X.rSetL K w) (tCons ta tNil)) tNil)) σ H (.int (L.length : Int)) := fun H0 e Q q =>
  h H0 e _ fun H1 e1 => ⟨l, L.map fun (t : Nat) => (t : Int), rfl, sq_of (by rw [e1 _ _ (e _ _ hl)]; congr 2; unfold natL; rw [List.map_map]; rfl), by rw [List.length_map]; omega, fun p c hp hc => by
    have h1 := hc (L.map fun (t : Nat) => (t : Int)) (K87.nodup_map_inj hd fun a _ b _ z => by omega) fun k => Iff.rfl
    rw [List.length_map] at h1
    subst h1
    exact ⟨p, _, _, rfl, upd_same, hz, q _ (e1.trans (Ex.new hp))⟩⟩
def endsL (E : List K87.Tie) (ts : List Nat) : List Nat := (ts.map fun t => [(K87.tieN E t).1, (K87.tieN E t).2]).flatten
theorem endsL_snoc (E : List K87.Tie) (ts : List Nat) (t : Nat) : endsL E (ts ++ [t]) = endsL E ts ++ [(K87.tieN E t).1, (K87.tieN E t).2] := by
  unfold endsL
  rw [List.map_append, List.flatten_append]
  rfl
theorem endsL_len (E : List K87.Tie) : ∀ ts : List Nat, (endsL E ts).length = 2 * ts.length
  | [] => rfl
  | t :: ts => by
    show ([(K87.tieN E t).1, (K87.tieN E t).2] ++ endsL E ts).length = _
    rw [List.length_append, endsL_len E ts]
    show 2 + _ = 2 * (ts.length + 1)
    omega
theorem endsL_nodup {n : Nat} {E : List K87.Tie} {ts : List Nat} (w : K87.WOk n E) (hl : ∀ t ∈ ts, t < E.length) (nd : ts.Pairwise (· < ·)) (ap : K87.Apart E ts) : (endsL E ts).Nodup := by
  unfold endsL List.Nodup
  rw [List.pairwise_flatten]
  refine ⟨fun l hlm => ?_, ?_⟩
  · obtain ⟨t, ht, rfl⟩ := List.mem_map.mp hlm
    have := K87.ends_ne w (hl t ht)
    exact List.pairwise_cons.mpr ⟨fun b hb => by rw [List.mem_singleton.mp hb]; exact this, List.pairwise_singleton _ _⟩
  · rw [List.pairwise_map]
    refine List.Pairwise.imp_of_mem (fun {a b} ha hb hab => ?_) nd
    intro x hx y hy z
    have h1 : K87.touch (K87.tieN E a) x = true := by
      rcases List.mem_cons.mp hx with q | q
      · exact K87.touch_iff.mpr (.inl q.symm)
      · exact K87.touch_iff.mpr (.inr (List.mem_singleton.mp q).symm)
    have h2 : K87.touch (K87.tieN E b) x = true := by
      rw [z]
      rcases List.mem_cons.mp hy with q | q
      · exact K87.touch_iff.mpr (.inl q.symm)
      · exact K87.touch_iff.mpr (.inr (List.mem_singleton.mp q).symm)
    have := ap a ha b hb x h1 h2
    omega
abbrev s_shows_pairing : Stmt := topS 31
abbrev n_shows_pairing : List Str := ["web", "thing", "ties", "cover", "places", "tie", "one", "other"]
theorem sc_shows_pairing : FnScope n_shows_pairing ["web", "thing"] (defScope s_shows_pairing) := ⟨rfl, rfl, rfl, by decide +kernel, rfl, by decide +kernel, by decide +kernel⟩
def sp_shows_pairing : Sp := fun vs H Q _ => ∃ (a q l1 l2 : Addr) (n : Nat) (E : List K87.Tie) (ts cv : List Nat), vs = [.ref a, .ref q] ∧ Web H a n E ∧ H q = some (.tup [.ref l1, .ref l2]) ∧ H l1 = some (.lst (natL ts)) ∧ H l2 = some (.lst (natL cv)) ∧ PairR n E ts cv ∧ RetV (.bl true) H Q
theorem sv_shows_pairing {H : Hp} {a q l1 l2 : Addr} {n : Nat} {E : List K87.Tie} {ts cv : List Nat} (W : Web H a n E) (hq : H q = some (.tup [.ref l1, .ref l2])) (h1 : H l1 = some (.lst (natL ts))) (h2 : H l2 = some (.lst (natL cv))) (R : PairR n E ts cv) : SpV sp_shows_pairing [.ref a, .ref q] H (.bl true) := fun H1 e Q k _ => ⟨a, q, l1, l2, n, E, ts, cv, rfl, W.ex e, e _ _ hq, e _ _ h1, e _ _ h2, R, fun H2 e2 => k H2 e2⟩
theorem ok_shows_pairing (D : DefAt K mg "shows_pairing" s_shows_pairing ["web", "thing"]) (T : Txt mg) (A_are_rising : At P w K mg base 1 "are_rising" ["thing", "below"] sp_are_rising) : At P w K mg base 2 "shows_pairing" ["web", "thing"] sp_shows_pairing := D.at fun f fd F => by
  refine F.ok sc_shows_pairing (fun vs H Q E h => ?_) (fun cdv A outer s H vs Q E hr h => ?_)
  · obtain ⟨a, q, l1, l2, n, E, ts, cv, rfl, _⟩ := h
    rfl
  · obtain ⟨a, q, l1, l2, n, E, ts, cv, rfl, W, hq, h1, h2, R, k⟩ := h
    refine ⟨_, (pss_cons (ps_if (pw_or (pt_not (pt_val (pe_callB call_isi (by rfl) T.isinstance (by decide +kernel) (pa_cons (pv 1) (pa_cons (pe_bltn (v := .ty "tuple") (by rfl) T.tuple (by decide +kernel) rfl) pa_nil))))) (pw_or1 (pt_cmpR op_ne (pe_callB call_len_seq (by rfl) T.len PySem.boot_len (pa_cons (pv 1) pa_nil)) pe_int (nomark _)))).pt (pss_one (ps_ret pe_bl)) pss_nil)
      (pss_cons (ps_asg (pv 1) (pg_tup rfl (pgs_cons (pg_name (i := 2) sc_shows_pairing.nd rfl (Or.inl rfl)) (pgs_cons (pg_name (i := 3) sc_shows_pairing.nd rfl (Or.inr rfl)) pgs_nil))))
      (pss_cons (ps_if (pw_or (pt_not (pt_val (pe_at A_are_rising (hr.mono (by decide)) (pa_cons (pv 2) (pa_cons (pe_callB call_len_seq (by rfl) T.len PySem.boot_len (pa_cons (pe_ix ix_tup (pv 0) pe_int (fun _ _ => rfl)) pa_nil)) pa_nil))))) (pw_or (pt_not (pt_val (pe_at A_are_rising (hr.mono (by decide)) (pa_cons (pv 3) (pa_cons (pe_ix ix_tup (pv 0) pe_int (fun _ _ => rfl)) pa_nil))))) (pw_or1 (pt_cmpR op_ne (pe_callB call_len_seq (by rfl) T.len PySem.boot_len (pa_cons (pv 2) pa_nil)) (pe_callB call_len_seq (by rfl) T.len PySem.boot_len (pa_cons (pv 3) pa_nil)) (nomark _))))).pt (pss_one (ps_ret pe_bl)) pss_nil)
      (pss_cons (ps_set (i := 4) sc_shows_pairing.nd rfl (Or.inl rfl) (pe_lst pa_nil))
      (pss_cons (ps_for PassesOwn.never rfl (pi_list (pv 2)) (pg_name (i := 5) sc_shows_pairing.nd rfl (Or.inl rfl)) (pss_one (ps_expr (pe_bm PySem.F.plainAttrs_list PySem.F.slot_list_extend PySem.F.type_list_extend mt_extT (pv 4) (pa_cons (pe_ix ix_tup (pe_ix ix_tup (pv 0) pe_int (fun _ _ => rfl)) (pv 5) (fun _ _ => rfl)) pa_nil)))))
      (pss_cons (ps_if (pt_cmpR op_ne (pe_callB cr_lenSet (by rfl) T.len PySem.boot_len (pa_cons (pe_callTy (cr_setL rfl) (by rfl) T.set (by decide +kernel) (pa_cons (pv 4) pa_nil)) pa_nil)) (pe_callB call_len_seq (by rfl) T.len PySem.boot_len (pa_cons (pv 4) pa_nil)) (nomark _)) (pss_one (ps_ret pe_bl)) pss_nil)
      (pss_one (ps_ret (pe_callB (cr_all rfl) (by rfl) T.all (by decide +kernel) (pa_cons (pe_lc (own := [("one", 6), ("other", 7)]) rfl sc_shows_pairing.nd (pi_tup (pe_ix ix_tup (pv 0) pe_int (fun _ _ => rfl))) (blkOk_by (own := [("one", 6), ("other", 7)]) (N := n_shows_pairing) (sc := defScope s_shows_pairing) (by decide +kernel)) (fun _ _ _ _ _ => (pg_tupK (K := K) (n := 2) rfl rfl (pgs_cons (pg_name (i := 6) sc_shows_pairing.nd rfl (Or.inl rfl)) (pgs_cons (pg_name (i := 7) sc_shows_pairing.nd rfl (Or.inl rfl)) pgs_nil)))) (fun _ _ _ _ _ => pts_nil) (fun _ _ _ _ _ => (pe_or (pe_cmpR (r := rIn K false) op_in_seq (pv 6) (pv 3) (by rfl)) (pe_one (pe_cmpR (r := rIn K false) op_in_seq (pv 7) (pv 3) (by rfl)))))) pa_nil)))))))))), ?_⟩
    have hln := W.ln
    have hle := W.le
    obtain ⟨b, as, CW⟩ := W.at_
    have cl : cv.length ≤ n := K87.len_le_range (K87.ris_nodup R.cris) R.clt
    have tl : ts.length ≤ n := by rw [R.len]; exact cl
    refine q_when (b := false) (et_or (a := false) (b := false) (et_not (a := true) (et_B (ev_cb (ea_cons (ev_var rfl) (ea_cons ev_c ea_nil)) (rc_isiT hq (by rfl))))) fun _ => et_test (ev_is (ev_op (ev_lenT (K := K) (ev_var rfl) hq) ev_c (rv_ne rfl)) rfl)) (fun z => nomatch z) fun _ H1 e1 => ?_
    refine q_asgG (ev_var rfl) fun H2 e2 => g_pair (e2 _ _ (e1 _ _ hq)) ?_
    have ex2 := e1.trans e2
    refine q_when (b := false) (et_or (a := false) (b := false) (et_not (a := true) (et_B (ev_call (ea_cons (ev_var rfl) (ea_cons (ev_m (CW.ex ex2) (ev_var rfl)) ea_nil)) (sv_are_rising (ex2 _ _ h1) (by omega) R.ris R.lt)))) fun _ => et_or (a := false) (b := false) (et_not (a := true) (et_B (ev_call (ea_cons (ev_var rfl) (ea_cons (ev_n (CW.ex ex2) (ev_var rfl)) ea_nil)) (sv_are_rising (ex2 _ _ h2) (by omega) R.cris R.clt)))) fun _ =>
      et_test (ev_is (ev_op (ev_len (K := K) (ev_var rfl) (sq_of (ex2 _ _ h1))) (ev_len (K := K) (ev_var rfl) (sq_of (ex2 _ _ h2))) (rv_ne rfl)) (by rw [natL_len, natL_len, R.len]; simp))) (fun z => nomatch z) fun _ H3 e3 => ?_
    have ex3 := ex2.trans e3
    refine q_asgL (el_lst ea_nil (show 0 ≤ 100000 by decide)) fun pl H4 hpl e4 h4 => ?_
    have ex4 := ex3.trans e4
    have hpl0 := fresh_back ex3 hpl
    refine q_forLn (ev_var rfl) (sq_of (ex4 _ _ h1)) (fun i σ' H' => ∃ x5, Ex H H' ∧ H' pl = some (.lst (natL (endsL E (ts.take i)))) ∧ σ' = [some (.ref a), some (.ref q), some (.ref l1), some (.ref l2), some (.ref pl), x5, none, none]) (fun H5 e5 => ⟨_, ex4.trans e5, e5 _ _ h4, rfl⟩) (fun i σ' H' _ p => by obtain ⟨x5, p1, _⟩ := p; exact sq_of (p1 _ _ h1)) (fun i x σ' H' hx p => ?_) fun σ' H' p => ?_
    · obtain ⟨x5, p1, hp, rfl⟩ := p
      obtain ⟨hi, rfl⟩ := natL_of hx
      obtain ⟨qt, z1, z2, z3⟩ := CW.tie_at (R.lt _ (getD_mem' hi))
      have ll := endsL_len E (ts.take i)
      rw [List.length_take] at ll
      refine q_extT hp (p1 _ _ z3) (ev_var rfl) (ev_tie (CW.ex p1) (ev_var rfl) (ev_var rfl) z1) (by rw [natL_len, ll]; show _ + 2 ≤ _; omega) fun H5 e5 => ⟨_, Ex.mut (p1.trans e5) hpl0, ?_, rfl⟩
      rw [upd_same, List.take_succ, List.getElem?_eq_getElem hi]
      show some (HO.lst _) = some (HO.lst (natL (endsL E (ts.take i ++ [ts[i]]))))
      rw [endsL_snoc, natL_app, show ts.getD i 0 = ts[i] by rw [List.getD_eq_getElem?_getD, List.getElem?_eq_getElem hi]; rfl]
      rfl
    · obtain ⟨x5, p1, hp, rfl⟩ := p
      rw [natL_len, List.take_length] at hp
      have ll := endsL_len E ts
      refine q_when (b := false) (et_test (ev_is (ev_op (ev_lenSet (ev_var rfl) hp (endsL_nodup W.ok R.lt R.ris R.apart) (by omega)) (ev_len (K := K) (ev_var rfl) (sq_of hp)) (rv_ne rfl)) (by rw [natL_len]; simp))) (fun z => nomatch z) fun _ H5 e5 => ?_
      have ex5 := p1.trans e5
      refine s_ret (ev_allT (el_lcT (fun _ => true) (fun _ => .bl true) (ev_ts (CW.ex ex5) (ev_var rfl)) (CW.ex ex5).ties (by rw [List.length_map, CW.len]; omega) fun i x H6 e6 hx Q q => ?_)) fun H6 e6 => k H6 (ex5.trans e6)
      have hi : i < E.length := by rw [← CW.len, ← List.length_map (f := V.ref)]; exact (List.getElem?_eq_some_iff.mp hx).1
      obtain ⟨qt, z1, z2, z3⟩ := CW.tie_at hi
      rw [hx] at z2
      cases z2
      have ex6 := ex5.trans e6
      refine g_pair (ex6 _ _ z3) ?_
      refine q _ ?_ (fun H7 e7 => et_yes) (fun _ H7 e7 => ?_) H6 (Ex.refl _)
      · rfl
      have hc := (ex6.trans e7) _ _ h2
      have hcv := R.cov i hi
      refine ev_is (ev_orV (ev_is (ev_op (ev_var rfl) (ev_var rfl) (rv_isL (sq_of hc) rfl (natL_flat _))) (congrArg V.bl (inV_natL _ _))) fun _ => ev_is (ev_op (ev_var rfl) (ev_var rfl) (rv_isL (sq_of hc) rfl (natL_flat _))) (congrArg V.bl (inV_natL _ _))) (congrArg V.bl ?_)
      rw [Bool.or_eq_true, decide_eq_true_eq, decide_eq_true_eq]
      exact hcv
end
end K87W
/-! halving.py -/
namespace K87W
open PySem PySem.Spec PyProof.Rows L2 Evl K87X
section
variable {K : PySem.W.Frag} {σ : L2.St} {H H' : Hp} {ta tb te : TE} {t : TA} {P P' : V → Hp → Prop} {sp : Sp} {E : XK}
/-- a call whose first argument is what another call answers -/
theorem ep_callP (h : EvP ta σ H P) (k : ∀ v H1, Ex H H1 → P v H1 → EvP (tCall sp [] E (tCons (tC v) t)) σ H1 P') : EvP (tCall sp [] E (tCons ta t)) σ H P' := fun H0 e Q q =>
  h H0 e _ fun v H1 e1 p => k v H1 (e.trans e1) p H1 (Ex.refl _) Q fun u H2 e2 pu => q u H2 (e1.trans e2) pu
theorem ep_tupP2 (ha : EvP ta σ H P) (hb : ∀ H1, Ex H H1 → EvP tb σ H1 P') (mono : ∀ v H1 H2, Ex H1 H2 → P v H1 → P v H2) (mono' : ∀ v H1 H2, Ex H1 H2 → P' v H1 → P' v H2) : EvP (tTup (tCons ta (tCons tb tNil))) σ H fun v H' => ∃ q x y, v = .ref q ∧ H' q = some (.tup [x, y]) ∧ P x H' ∧ P' y H' := fun H1 e Q k =>
  ha H1 e _ fun x H2 e2 p2 => hb H2 (e.trans e2) H2 (Ex.refl _) _ fun y H3 e3 p3 => ⟨show 2 ≤ sizeLine by decide, fun q hq => k _ _ ((e2.trans e3).trans (Ex.new hq)) ⟨q, x, y, rfl, upd_same, mono _ _ _ (e3.trans (Ex.new hq)) p2, mono' _ _ _ (Ex.new hq) p3⟩⟩
end
theorem getD_map (l : List Nat) : l = (List.range l.length).map fun i => l.getD i 0 := by
  apply List.ext_getElem?
  intro i
  by_cases h : i < l.length
  · rw [List.getElem?_map, List.getElem?_range h, List.getElem?_eq_getElem h]
    show some l[i] = some (l.getD i 0)
    rw [List.getD_eq_getElem?_getD, List.getElem?_eq_getElem h]
    rfl
  · rw [List.getElem?_eq_none (by omega), List.getElem?_eq_none (by rw [List.length_map, List.length_range]; omega)]
theorem given_nat (l : List Nat) (f : Nat → Bool) (g : Nat → V) : given l.length (fun i => f (l.getD i 0)) (fun i => g (l.getD i 0)) = (l.filter f).map g := by
  have e := getD_map l
  have h : (l.filter f).map g = (((List.range l.length).map fun i => l.getD i 0).filter f).map g := by rw [← e]
  rw [h, List.filter_map, List.map_map]
  rfl
/-- over a list of numbers -/
theorem el_lcN {K : PySem.W.Frag} {σ : L2.St} {H : Hp} {tl te : TE} {t : TT} {a : Addr} {l : List Nat} {j : Nat} {vs : List Nat} (f : Nat → Bool) (g : Nat → V) (h : Ev tl σ H (.ref a)) (hx : H a = some (.lst (natL l))) (hz : l.length ≤ 40000) (hw : ∀ x, wipe ((wipe σ vs).set j (some x)) vs = wipe σ vs)
    (ht : ∀ (x : Nat) H1, Ex H H1 → x ∈ l → EvT t ((wipe σ vs).set j (some (.int (x : Int)))) H1 (f x)) (he : ∀ (x : Nat) H1, Ex H H1 → x ∈ l → f x = true → Ev te ((wipe σ vs).set j (some (.int (x : Int)))) H1 (g x)) :
    EvL (tLc (iList K tl) (gName j) t te vs) σ H ((l.filter f).map g) := by
  rw [← given_nat, ← natL_len l]
  exact el_lcL (fun i => f (l.getD i 0)) (fun i => g (l.getD i 0)) h (sq_of hx) (by rw [natL_len]; exact hz) hw (fun i x H1 e hx => by
    obtain ⟨hi, rfl⟩ := natL_of hx
    exact ht _ H1 e (getD_mem' hi)) (fun i x H1 e hx hf => by
    obtain ⟨hi, rfl⟩ := natL_of hx
    exact he _ H1 e (getD_mem' hi) hf)
/-- a list of ties -/
def TL (H : Hp) (l : Addr) (G : List K87.Tie) : Prop := ∃ as : List Addr, H l = some (.lst (as.map V.ref)) ∧ as.length = G.length ∧ ∀ (i : Nat) (q : Addr), as[i]? = some q → H q = some (.tup [.int ((K87.tieN G i).1 : Nat), .int ((K87.tieN G i).2 : Nat)])
theorem TL.ex {H H' : Hp} {l : Addr} {G : List K87.Tie} (L : TL H l G) (e : Ex H H') : TL H' l G :=
  let ⟨as, h1, h2, h3⟩ := L
  ⟨as, e _ _ h1, h2, fun i q h => e _ _ (h3 i q h)⟩
theorem TL.at {H : Hp} {l : Addr} {G : List K87.Tie} (L : TL H l G) {i : Nat} (hi : i < G.length) : ∃ xs q, H l = some (.lst xs) ∧ xs.length = G.length ∧ xs[i]? = some (.ref q) ∧ H q = some (.tup [.int ((K87.tieN G i).1 : Nat), .int ((K87.tieN G i).2 : Nat)]) := by
  obtain ⟨as, h1, h2, h3⟩ := L
  have h : i < as.length := by omega
  exact ⟨_, as[i], h1, by rw [List.length_map, h2], by rw [List.getElem?_map, List.getElem?_eq_getElem h]; rfl, h3 i _ (List.getElem?_eq_getElem h)⟩
theorem tieN_left {G : List K87.Tie} {e : K87.Tie} {i : Nat} (h : i < G.length) : K87.tieN (G ++ [e]) i = K87.tieN G i := by
  unfold K87.tieN
  rw [List.getD_eq_getElem?_getD, List.getElem?_append_left h, ← List.getD_eq_getElem?_getD]
theorem tieN_last {G : List K87.Tie} {e : K87.Tie} : K87.tieN (G ++ [e]) G.length = e := by
  unfold K87.tieN
  rw [List.getD_eq_getElem?_getD, List.getElem?_append_right (Nat.le_refl _), Nat.sub_self]
  rfl
/-- one more tie -/
theorem TL.snoc {H H1 : Hp} {l q : Addr} {G : List K87.Tie} {e : K87.Tie} (L : TL H l G) (ex : Ex H H1) (hq : H1 q = some (.tup [.int (e.1 : Nat), .int (e.2 : Nat)])) : ∃ xs, H l = some (.lst xs) ∧ xs.length = G.length ∧ TL (upd H1 l (.lst (xs ++ [.ref q]))) l (G ++ [e]) := by
  obtain ⟨as, h1, h2, h3⟩ := L
  have hl := ex _ _ h1
  have te : ∀ (b : Addr) (ys : List V), H1 b = some (.tup ys) → (upd H1 l (.lst (as.map V.ref ++ [.ref q]))) b = some (.tup ys) := fun b ys hb => by
    rw [upd_ne (fun z => by rw [z, hl] at hb; cases hb)]
    exact hb
  refine ⟨_, h1, by rw [List.length_map, h2], as ++ [q], by rw [upd_same, List.map_append]; rfl, by rw [List.length_append, List.length_append, h2]; rfl, fun i b hb => ?_⟩
  by_cases hi : i < as.length
  · rw [List.getElem?_append_left hi] at hb
    rw [tieN_left (by omega)]
    exact te _ _ (ex _ _ (h3 i b hb))
  · rw [List.getElem?_append_right (by omega)] at hb
    have h0 : i - as.length = 0 := by
      by_cases h0 : i - as.length = 0
      · exact h0
      · rw [List.getElem?_eq_none (by simp; omega)] at hb
        cases hb
    rw [h0] at hb
    cases hb
    have hil : i = G.length := by omega
    rw [hil, tieN_last]
    exact te _ _ hq
section
variable {P : Program} {w : World} {K : PySem.W.Frag} {mg : Str → Option Value} {base : Heap}
abbrev s_evened_ties : Stmt := topS 33
abbrev n_evened_ties : List Str := ["web", "sides", "many", "ties", "odd", "place"]
theorem sc_evened_ties : FnScope n_evened_ties ["web", "sides"] (defScope s_evened_ties) := ⟨rfl, rfl, rfl, by decide +kernel, rfl, by decide +kernel, by decide +kernel⟩
def sp_evened_ties : Sp := fun vs H Q _ => ∃ (a sl : Addr) (n : Nat) (E : List K87.Tie) (s : Nat → Bool), vs = [.ref a, .ref sl] ∧ Web H a n E ∧ H sl = some (.lst (sidesV n s)) ∧ RetP (fun v H' => ∃ l, v = .ref l ∧ TL H' l (K87.evened n E s)) H Q
theorem ok_evened_ties (D : DefAt K mg "evened_ties" s_evened_ties ["web", "sides"]) (T : Txt mg) (A_count_at : At P w K mg base 4 "count_at" ["web", "place"] sp_count_at) : At P w K mg base 5 "evened_ties" ["web", "sides"] sp_evened_ties := D.at fun f fd F => by
  refine F.ok sc_evened_ties (fun vs H Q E h => ?_) (fun cdv A outer s H vs Q E hr h => ?_)
  · obtain ⟨a, sl, n, E, sd, rfl, _⟩ := h
    rfl
  · obtain ⟨a, sl, n, E, sd, rfl, W, hsl, k⟩ := h
    refine ⟨_, (pss_cons (ps_set (i := 2) sc_evened_ties.nd rfl (Or.inl rfl) (pe_ix ix_tup (pv 0) pe_int (fun _ _ => rfl)))
      (pss_cons (ps_set (i := 3) sc_evened_ties.nd rfl (Or.inl rfl) (pe_callTy call_list_of (by rfl) T.list (by decide +kernel) (pa_cons (pe_ix ix_tup (pv 0) pe_int (fun _ _ => rfl)) pa_nil)))
      (pss_cons (ps_setLc (i := 4) (own := [("place", 5)]) rfl sc_evened_ties.nd rfl rfl (sw_true rfl rfl rfl (by decide +kernel)) (pi_range1 rfl T.range (pa_cons (pv 2) pa_nil)) (blkOk_by (own := [("place", 5)]) (N := n_evened_ties) (sc := defScope s_evened_ties) (by decide +kernel)) (fun _ _ _ _ _ => (pg_name (i := 5) sc_evened_ties.nd rfl (Or.inl rfl))) (fun _ _ _ _ _ => pts_one (pt_cmpR op_eq (pe_op op_mod (pe_at A_count_at (hr.mono (by decide)) (pa_cons (pv 0) (pa_cons (pv 5) pa_nil))) pe_int) pe_int (nomark _))) (fun _ _ _ _ _ => (pv 5)))
      (pss_cons (ps_for PassesOwn.never rfl (pi_list (pv 4)) (pg_name (i := 5) sc_evened_ties.nd rfl (Or.inl rfl)) (pss_one (ps_expr (pe_bm PySem.F.plainAttrs_list PySem.F.slot_list_append PySem.F.type_list_append mt_append (pv 3) (pa_cons (pe_tup (pa_cons (pv 5) (pa_cons (pe_op op_add (pv 2) (pe_ix ix_list (pv 1) (pv 5) (fun _ _ => rfl))) pa_nil))) pa_nil)))))
      (pss_cons (ps_if (pt_cmpR op_eq (pe_op op_mod (pe_callB call_len_seq (by rfl) T.len PySem.boot_len (pa_cons (pe_lc (own := [("place", 5)]) rfl sc_evened_ties.nd (pi_list (pv 4)) (blkOk_by (own := [("place", 5)]) (N := n_evened_ties) (sc := defScope s_evened_ties) (by decide +kernel)) (fun _ _ _ _ _ => (pg_name (i := 5) sc_evened_ties.nd rfl (Or.inl rfl))) (fun _ _ _ _ _ => pts_one (pt_cmpR op_eq (pe_ix (r := rIxL K) ix_list (pv 1) (pv 5) (fun _ _ => rfl)) pe_int (nomark _))) (fun _ _ _ _ _ => (pv 5))) pa_nil)) pe_int) pe_int (nomark _)) (pss_one (ps_expr (pe_bm PySem.F.plainAttrs_list PySem.F.slot_list_append PySem.F.type_list_append mt_append (pv 3) (pa_cons (pe_tup (pa_cons (pv 2) (pa_cons (pe_op op_add (pv 2) pe_int) pa_nil))) pa_nil)))) pss_nil)
      (pss_one (ps_ret (pv 3)))))))), ?_⟩
    have hln := W.ln
    have hle := W.le
    obtain ⟨b, as, CW⟩ := W.at_
    refine q_asg (ev_n CW (ev_var rfl)) fun H1 e1 => ?_
    refine q_asgL (el_listT (ev_ts (CW.ex e1) (ev_var rfl)) (e1 _ _ CW.ties)) fun tl H2 htl e2 h2 => ?_
    have htl0 := fresh_back e1 htl
    have ex2 := e1.trans e2
    have T2 : TL H2 tl E := ⟨as, h2, CW.len, fun i q hq => ex2 _ _ (CW.tie i q hq)⟩
    have W2 := W.ex ex2
    refine q_asgL (xs := natL (K87.odds n E)) (el_is (el_lcR1 (n := (n : Int)) (fun p => K87.deg E p % 2 == 1) (fun (p : Nat) => .int (p : Int)) (ea_cons (ev_var rfl) ea_nil) (by omega) (fun x => rfl) (fun i H4 e4 hi => ?_) (fun i H4 e4 hi _ => ev_var rfl)) ?_) fun od H3 hod e3 h3 => ?_
    · refine et_test (ev_is (ev_op (ev_op (ev_call (ea_cons (ev_var rfl) (ea_cons (ev_var rfl) ea_nil)) (sv_count_at (W2.ex e4) (by omega))) ev_c (rv_I (by decide))) ev_c (rv_eq rfl)) (congrArg V.bl ?_))
      rw [Bool.eq_iff_iff, decide_eq_true_eq, beq_iff_eq]
      exact ⟨fun z => by injection z with z; omega, fun z => by congr 1; omega⟩
    · rw [show ((n : Int).toNat) = n by omega]
      rfl
    have ex3 := ex2.trans e3
    have T3 := T2.ex e3
    have ol : (K87.odds n E).length ≤ n := K87.len_le_range K87.odds_nodup fun p hp => K87.odds_lt hp
    let F : Nat → K87.Tie := fun p => (p, n + if sd p then 1 else 0)
    have nto : tl ≠ od := ne_of_none (h2) hod
    refine q_forLn (ev_var rfl) (sq_of h3) (fun i σ' H' => ∃ x5, Ex H H' ∧ H' od = some (.lst (natL (K87.odds n E))) ∧ TL H' tl (E ++ ((K87.odds n E).take i).map F) ∧ σ' = [some (.ref a), some (.ref sl), some (.int (n : Int)), some (.ref tl), some (.ref od), x5]) (fun H4 e4 => ⟨_, ex3.trans e4, e4 _ _ h3, by rw [List.take_zero, List.map_nil, List.append_nil]; exact T3.ex e4, rfl⟩) (fun i σ' H' _ p => by obtain ⟨x5, _, p2, _⟩ := p; exact sq_of p2) (fun i x σ' H' hx p => ?_) fun σ' H' p => ?_
    · obtain ⟨x5, p1, p2, T4, rfl⟩ := p
      obtain ⟨hi, rfl⟩ := natL_of hx
      have hpn := K87.odds_lt (getD_mem' hi)
      obtain ⟨xs0, hx0⟩ : ∃ xs, H' tl = some (.lst xs) := let ⟨as, h, _⟩ := T4; ⟨_, h⟩
      have xl : xs0.length ≤ 200 := by
        obtain ⟨as, h, hl, _⟩ := T4
        rw [hx0] at h
        cases h
        rw [List.length_map, hl, List.length_append, List.length_map, List.length_take]
        omega
      refine s_appU hx0 (ev_var rfl) (eu_tup2 (ev_var rfl) (ev_op (ev_var rfl) (ev_op (ev_var rfl) (ev_var rfl) (rv_ixL (sq_of (p1 _ _ hsl)) (atI_nat (sidesV_get hpn)))) rv_I0)) (by omega) fun q H5 hq e5 h5 => ?_
      obtain ⟨xs, g1, g2, T5⟩ := T4.snoc (e := F ((K87.odds n E).getD i 0)) e5 (by
        rw [h5]
        congr 4
        show V.int ((n : Int) + bI (sd ((K87.odds n E).getD i 0))) = V.int ((n + (if sd ((K87.odds n E).getD i 0) = true then 1 else 0) : Nat) : Int)
        cases sd ((K87.odds n E).getD i 0) <;> rfl)
      have ex : xs = xs0 := by
        rw [g1] at hx0
        injection hx0 with z
        injection z
      rw [ex] at T5
      refine ⟨_, Ex.mut (p1.trans e5) htl0, ?_, ?_, rfl⟩
      · rw [upd_ne (Ne.symm nto)]
        exact e5 _ _ p2
      · rw [List.take_succ, List.getElem?_eq_getElem hi, List.map_append, ← List.append_assoc, show (K87.odds n E)[i] = (K87.odds n E).getD i 0 by rw [List.getD_eq_getElem?_getD, List.getElem?_eq_getElem hi]; rfl]
        exact T5
    · obtain ⟨x5, p1, p2, T4, rfl⟩ := p
      rw [natL_len, List.take_length] at T4
      have hl : Ev (tCB (rLenS K) (tCons (tLc (iList K (tVar 4)) (gName 5) (tTest (tOp rEq (tOp (rIxL K) (tVar 1) (tVar 5)) (tC (.int 0)))) (tVar 5) [5]) tNil)) [some (.ref a), some (.ref sl), some (.int (n : Int)), some (.ref tl), some (.ref od), x5] H' (.int ((((K87.odds n E).filter fun p => sd p == false).length : Nat) : Int)) :=
        ev_is (ev_lenN (el_lcN (fun p => sd p == false) (fun (p : Nat) => .int (p : Int)) (ev_var rfl) p2 (by omega) (fun _ => rfl) (fun x H6 e6 hx => et_test (ev_is (ev_op (ev_op (ev_var rfl) (ev_var rfl) (rv_ixL (sq_of ((p1.trans e6) _ _ hsl)) (atI_nat (sidesV_get (K87.odds_lt hx))))) ev_c (rv_eq rfl)) (congrArg V.bl (by cases sd x <;> decide)))) (fun x H6 e6 hx _ => ev_var rfl))) (by rw [List.length_map])
      have lf : ((K87.odds n E).filter fun p => sd p == false).length ≤ n := Nat.le_trans (List.length_filter_le _ _) ol
      refine q_when (b := decide (((K87.odds n E).filter fun p => sd p == false).length % 2 = 1)) (et_test (ev_is (ev_op (ev_op hl ev_c (rv_I (by decide))) ev_c (rv_eq rfl)) (congrArg V.bl (decide_eq_decide.mpr ⟨fun z => by injection z with z; omega, fun z => by congr 1; omega⟩)))) (fun hb H6 e6 => ?_) (fun hb H6 e6 => ?_)
      · have T6 := T4.ex e6
        obtain ⟨xs0, hx0, xl⟩ : ∃ xs, H6 tl = some (.lst xs) ∧ xs.length ≤ 200 := by
          obtain ⟨as, h, hl, _⟩ := T6
          refine ⟨_, h, ?_⟩
          rw [List.length_map, hl, List.length_append, List.length_map]
          omega
        refine s_appU hx0 (ev_var rfl) (eu_tup2 (ev_var rfl) (ev_op (ev_var rfl) ev_c rv_I0)) (by omega) fun q H7 hq e7 h7 => ?_
        obtain ⟨xs, g1, g2, T7⟩ := T6.snoc (e := (n, n + 1)) e7 (by rw [h7]; rfl)
        have ex : xs = xs0 := by
          rw [g1] at hx0
          injection hx0 with z
          injection z
        rw [ex] at T7
        refine s_ret (ev_var rfl) fun H8 e8 => k _ H8 ((Ex.mut ((p1.trans e6).trans e7) htl0).trans e8) ⟨tl, rfl, ?_⟩
        unfold K87.evened K87.extra
        rw [if_pos (of_decide_eq_true hb), ← List.append_assoc]
        exact T7.ex e8
      · refine s_ret (ev_var rfl) fun H8 e8 => k _ H8 ((p1.trans e6).trans e8) ⟨tl, rfl, ?_⟩
        unfold K87.evened K87.extra
        rw [if_neg (of_decide_eq_false hb), List.append_nil]
        exact (T4.ex e6).ex e8
/-! turns_of -/
def oB : Option Bool → V
  | none => .non
  | some b => .int (bI b)
def optB (n : Nat) (f : Nat → Option Bool) : List V := (List.range n).map fun p => oB (f p)
theorem optB_len {n : Nat} {f : Nat → Option Bool} : (optB n f).length = n := by unfold optB; rw [List.length_map, List.length_range]
theorem optB_get {n p : Nat} {f : Nat → Option Bool} (h : p < n) : (optB n f)[p]? = some (oB (f p)) := by
  unfold optB
  rw [List.getElem?_map, List.getElem?_range h]
  rfl
theorem optB_set {n p : Nat} {f : Nat → Option Bool} {v : Option Bool} : (optB n f).set p (oB v) = optB n (K87.setf f p v) := by
  apply List.ext_getElem?
  intro i
  by_cases hi : i < n
  · by_cases hip : i = p
    · subst hip
      rw [List.getElem?_set_self (by rw [optB_len]; exact hi), optB_get hi, K87.setf_same]
    · rw [List.getElem?_set_ne (Ne.symm hip), optB_get hi, optB_get hi, K87.setf_ne hip]
  · rw [List.getElem?_eq_none (by rw [List.length_set, optB_len]; omega), List.getElem?_eq_none (by rw [optB_len]; omega)]
theorem ex_snoc {l : List Nat} (h : l ≠ []) : ∃ a b, l = a ++ [b] := ⟨l.dropLast, l.getLast h, (List.dropLast_concat_getLast h).symm⟩
theorem et_isN' {K : PySem.W.Frag} {σ : L2.St} {H : Hp} {ta : TE} {x : V} {b : Bool} (h : Ev ta σ H x) (hb : decide (x = .non) = b) : EvT (tTest (tOp (fun x y H Q => y = .non ∧ Q (.bl (decide (x = .non))) H) ta (tC .non))) σ H b := et_isN h hb
abbrev s_turns_of : Stmt := topS 34
abbrev n_turns_of : List Str := ["ties", "many", "left", "tie", "ends", "place", "found", "start", "here", "turn"]
theorem sc_turns_of : FnScope n_turns_of ["ties", "many"] (defScope s_turns_of) := ⟨rfl, rfl, rfl, by decide +kernel, rfl, by decide +kernel, by decide +kernel⟩
def sp_turns_of : Sp := fun vs H Q _ => ∃ (gl : Addr) (N : Nat) (G : List K87.Tie) (s : Nat → Bool), vs = [.ref gl, .int N] ∧ TL H gl G ∧ K87.WOk N G ∧ K87.Two G s ∧ K87.Even N G ∧ N ≤ 40 ∧ G.length ≤ 1000 ∧ RetP (fun v H' => ∃ l fd, v = .ref l ∧ H' l = some (.lst (optB G.length fd)) ∧ K87.Bal N G fd) H Q
theorem ok_turns_of (D : DefAt K mg "turns_of" s_turns_of ["ties", "many"]) (T : Txt mg) : At P w K mg base 1 "turns_of" ["ties", "many"] sp_turns_of := D.at fun f fd F => by
  refine F.ok sc_turns_of (fun vs H Q E h => ?_) (fun cdv A outer s H vs Q E hr h => ?_)
  · obtain ⟨gl, N, G, sd, rfl, _⟩ := h
    rfl
  · obtain ⟨gl, N, G, sd, rfl, TG, wok, two, ev, hN, hG, k⟩ := h
    refine ⟨_, (pss_cons (ps_setLc (i := 2) (own := [("place", 5)]) rfl sc_turns_of.nd rfl rfl (sw_true rfl rfl rfl (by decide +kernel)) (pi_range1 rfl T.range (pa_cons (pv 1) pa_nil)) (blkOk_by (own := [("place", 5)]) (N := n_turns_of) (sc := defScope s_turns_of) (by decide +kernel)) (fun _ _ _ _ _ => (pg_name (i := 5) sc_turns_of.nd rfl (Or.inl rfl))) (fun _ _ _ _ _ => pts_nil) (fun _ _ _ _ _ => (pe_lst pa_nil)))
      (pss_cons (ps_for PassesOwn.never rfl (pi_enum (by rfl) T.enumerate (pa_cons (pv 0) pa_nil)) (pg_tup rfl (pgs_cons (pg_name (i := 3) sc_turns_of.nd rfl (Or.inl rfl)) (pgs_cons (pg_name (i := 4) sc_turns_of.nd rfl (Or.inl rfl)) pgs_nil))) (pss_one (ps_for PassesOwn.never rfl (pi_tup (pv 4)) (pg_name (i := 5) sc_turns_of.nd rfl (Or.inl rfl)) (pss_one (ps_expr (pe_bm PySem.F.plainAttrs_list PySem.F.slot_list_append PySem.F.type_list_append mt_append (pe_ix ix_list (pv 2) (pv 5) (fun _ _ => rfl)) (pa_cons (pv 3) pa_nil)))))))
      (pss_cons (ps_set (i := 6) sc_turns_of.nd rfl (Or.inl rfl) (pe_op op_rep (pe_lst (pa_cons pe_non pa_nil)) (pe_callB call_len_seq (by rfl) T.len PySem.boot_len (pa_cons (pv 0) pa_nil))))
      (pss_cons (ps_for PassesOwn.never rfl (pi_range1 rfl T.range (pa_cons (pv 1) pa_nil)) (pg_name (i := 7) sc_turns_of.nd rfl (Or.inl rfl)) (pss_cons (ps_set (i := 8) sc_turns_of.nd rfl (Or.inl rfl) (pv 7))
      (pss_cons (ps_set (i := 9) sc_turns_of.nd rfl (Or.inl rfl) pe_int)
      (pss_one (ps_while PassesOwn.never (pt_cmpR op_gt (pe_callB call_len_seq (by rfl) T.len PySem.boot_len (pa_cons (pe_ix ix_list (pv 2) (pv 8) (fun _ _ => rfl)) pa_nil)) pe_int (nomark _)) (pss_cons (ps_set (i := 3) sc_turns_of.nd rfl (Or.inl rfl) (pe_bm0 PySem.F.plainAttrs_list PySem.F.slot_list_pop PySem.F.type_list_pop mt_pop (pe_ix ix_list (pv 2) (pv 8) (fun _ _ => rfl))))
      (pss_one (ps_if (pt_cmpR op_isN (pe_ix ix_list (pv 6) (pv 3) (fun _ _ => rfl)) pe_non (nomark _)) (pss_cons (ps_asg (pv 9) (pg_sub (pv 6) (pv 3) set_list))
      (pss_cons (ps_set (i := 9) sc_turns_of.nd rfl (Or.inl rfl) (pe_op op_sub pe_int (pv 9)))
      (pss_one (ps_set (i := 8) sc_turns_of.nd rfl (Or.inl rfl) (pe_op op_sub (pe_op op_add (pe_ix ix_tup (pe_ix ix_list (pv 0) (pv 3) (fun _ _ => rfl)) pe_int (fun _ _ => rfl)) (pe_ix ix_tup (pe_ix ix_list (pv 0) (pv 3) (fun _ _ => rfl)) pe_int (fun _ _ => rfl))) (pv 8)))))) pss_nil))))))))
      (pss_one (ps_ret (pv 6))))))), ?_⟩
    refine q_asgP (ep_lists (n := N) (ea_cons (ev_var rfl) ea_nil) (by omega) (fun _ => rfl)) fun v H1 e1 hv => ?_
    obtain ⟨l, as, rfl, hlen, L, hfl, hfa⟩ := hv
    obtain ⟨ga, g1, g2, g3⟩ := TG
    have TG : TL H gl G := ⟨ga, g1, g2, g3⟩
    refine q_forEL (ea_cons (ev_var rfl) ea_nil) (e1 _ _ g1) (fun i σ' H' => ∃ x3 x4 x5, Ex H H' ∧ LL H' l as (fun p => natL (upTo G i p)) ∧ σ' = [some (.ref gl), some (.int (N : Int)), some (.ref l), x3, x4, x5, none, none, none, none]) (fun H2 e2 => ⟨_, _, _, e1.trans e2, L.ex e2, rfl⟩) (fun i σ' H' _ p => by obtain ⟨_, _, _, p1, _⟩ := p; exact p1 _ _ g1) (fun i x T σ' H' hx p hT => ?_) fun σ' H' p => ?_
    · obtain ⟨x3, x4, x5, p1, L1, rfl⟩ := p
      have hi : i < ga.length := by rw [← List.length_map (f := V.ref)]; exact (List.getElem?_eq_some_iff.mp hx).1
      obtain ⟨q, hq⟩ : ∃ q, ga[i]? = some q := ⟨_, List.getElem?_eq_getElem hi⟩
      rw [List.getElem?_map, hq] at hx
      cases hx
      have hqt := g3 i q hq
      have ho := wok _ (K87.tieN_mem (show i < G.length by omega))
      have e0 := Ex.new (o := .tup [.int (i : Int), .ref q]) hT
      refine g_pair upd_same ?_
      have p0 := p1.trans e0
      have L0 := L1.ex e0
      generalize upd H' T (.tup [.int (i : Int), .ref q]) = G0 at e0 p0 L0 ⊢
      refine s_forTn (ev_var rfl) (st_of (p0 _ _ hqt)) (fun j σ' H' => ∃ x5, Ex H H' ∧ LL H' l as (fun p => natL (upTo G i p ++ if (0 < j ∧ p = (K87.tieN G i).1) ∨ (1 < j ∧ p = (K87.tieN G i).2) then [i] else [])) ∧ σ' = [some (.ref gl), some (.int (N : Int)), some (.ref l), some (.int (i : Int)), some (.ref q), x5, none, none, none, none])
        (fun H2 e2 => ⟨_, p0.trans e2, (L0.ex e2).congr fun p _ => by rw [if_neg (by omega), List.append_nil], rfl⟩) (fun j σ' H' _ p => by obtain ⟨_, p1, _⟩ := p; exact st_of (p1 _ _ hqt)) (fun j x σ' H' hx p => ?_) fun σ' H' p => ?_
      · obtain ⟨x5, p2, L2', rfl⟩ := p
        have step : ∀ (b : Nat), x = .int (b : Int) → b < N → (∀ p, p < as.length → (K87.setf (fun p => natL (upTo G i p ++ if (0 < j ∧ p = (K87.tieN G i).1) ∨ (1 < j ∧ p = (K87.tieN G i).2) then [i] else [])) b (natL (upTo G i b ++ if (0 < j ∧ b = (K87.tieN G i).1) ∨ (1 < j ∧ b = (K87.tieN G i).2) then [i] else []) ++ [.int (i : Int)])) p = natL (upTo G i p ++ if (0 < j + 1 ∧ p = (K87.tieN G i).1) ∨ (1 < j + 1 ∧ p = (K87.tieN G i).2) then [i] else [])) →
            ∀ D : Ends, (∀ σ' H', (∃ x5, Ex H H' ∧ LL H' l as (fun p => natL (upTo G i p ++ if (0 < j + 1 ∧ p = (K87.tieN G i).1) ∨ (1 < j + 1 ∧ p = (K87.tieN G i).2) then [i] else [])) ∧ σ' = [some (.ref gl), some (.int (N : Int)), some (.ref l), some (.int (i : Int)), some (.ref q), x5, none, none, none, none]) → D.nx σ' H') →
            (tDrop (tBM K "list" rAppend (tOp (rIxL K) (tVar 2) (tVar 5)) (tCons (tVar 3) tNil))) D [some (.ref gl), some (.int (N : Int)), some (.ref l), some (.int (i : Int)), some (.ref q), some x, none, none, none, none] H' := fun b hb hbn hc D hD => by
          subst hb
          obtain ⟨a1, y1, _, y3⟩ := L2'.at (i := b) (by omega)
          have ul := upTo_len G i b
          refine s_app y3 (ev_row L2' (ev_var rfl) (ev_var rfl) y1) (ev_var rfl) (by
            rw [natL_len, List.length_append]
            split
            · show _ + 1 < _; omega
            · show _ + 0 < _; omega) fun H3 e3 => hD _ _ ⟨_, Ex.mut (p2.trans e3) (hfa _ (List.mem_of_getElem? y1)), ((L2'.ex e3).put y1).congr hc, rfl⟩
        have hj2 : j < 2 := (List.getElem?_eq_some_iff.mp hx).1
        rcases (show j = 0 ∨ j = 1 by omega) with rfl | rfl
        · refine step (K87.tieN G i).1 (by cases hx; rfl) (by omega) (fun p hp => ?_) _ fun _ _ z => z
          unfold K87.setf
          by_cases hp1 : p = (K87.tieN G i).1
          · rw [if_pos hp1, if_neg (by omega), List.append_nil, if_pos (.inl ⟨by omega, hp1⟩), hp1, natL_app]; rfl
          · rw [if_neg hp1]
            dsimp only
            rw [if_neg (by omega), if_neg (by omega)]
        · refine step (K87.tieN G i).2 (by cases hx; rfl) (by omega) (fun p hp => ?_) _ fun _ _ z => z
          unfold K87.setf
          by_cases hp2 : p = (K87.tieN G i).2
          · rw [if_pos hp2, if_neg (by omega), List.append_nil, if_pos (.inr ⟨by omega, hp2⟩), hp2, natL_app]; rfl
          · rw [if_neg hp2]
            dsimp only
            by_cases hp1 : p = (K87.tieN G i).1
            · rw [if_pos (.inl ⟨by omega, hp1⟩), if_pos (.inl ⟨by omega, hp1⟩)]
            · rw [if_neg (by omega), if_neg (by omega)]
      · obtain ⟨x5, p2, L2', rfl⟩ := p
        refine ⟨_, _, _, p2, L2'.congr fun p hp => ?_, rfl⟩
        rw [upTo_succ]
        congr 2
        by_cases ht : K87.touch (K87.tieN G i) p = true
        · rw [if_pos ht, if_pos]
          rcases K87.touch_iff.mp ht with z | z
          · exact .inl ⟨show 0 < 2 by decide, z.symm⟩
          · exact .inr ⟨show 1 < 2 by decide, z.symm⟩
        · rw [if_neg ht, if_neg]
          exact fun z => z.elim (fun z => ht (K87.touch_iff.mpr (.inl z.2.symm))) fun z => ht (K87.touch_iff.mpr (.inr z.2.symm))
    · obtain ⟨x3, x4, x5, p1, L1, rfl⟩ := p
      rw [List.length_map, g2] at L1
      refine q_asgL (el_is (el_rep (n := G.length) (x := .non) (el_lst (ea_cons ev_c ea_nil) (show 1 ≤ 100000 by decide)) (fun H3 e3 => ev_is (ev_len (ev_var rfl) (sq_of ((p1.trans e3) _ _ g1))) (by rw [List.length_map, g2])) (by omega)) (ys := optB G.length fun _ => none) (by
        apply List.ext_getElem?
        intro i
        by_cases hi : i < G.length
        · rw [optB_get hi, List.getElem?_replicate, if_pos hi]; rfl
        · rw [List.getElem?_eq_none (by rw [List.length_replicate]; omega), List.getElem?_eq_none (by rw [optB_len]; omega)])) fun fl H2 hfl2 e2 h2 => ?_
      have hfl0 := fresh_back p1 hfl2
      have nas : ∀ a ∈ as, fl ≠ a := fun a ha z => by
        obtain ⟨j, hj, ej⟩ := List.mem_iff_getElem.mp ha
        have := L1.row j a (by rw [List.getElem?_eq_getElem hj, ej])
        rw [← z, hfl2] at this
        cases this
      have nl : fl ≠ l := fun z => by
        have := L1.top
        rw [← z, hfl2] at this
        cases this
      refine q_forR1 (ea_cons (ev_var rfl) ea_nil) (by omega) (fun i σ' H' => ∃ (Lf : Nat → List Nat) (fd : Nat → Option Bool) (x3 x4 x5 x7 x8 x9 : Option V), Ex H H' ∧ LL H' l as (fun p => natL (Lf p)) ∧ H' fl = some (.lst (optB G.length fd)) ∧ K87.TAll N G Lf fd ∧ K87.Bal N G fd ∧ σ' = [some (.ref gl), some (.int (N : Int)), some (.ref l), x3, x4, x5, some (.ref fl), x7, x8, x9])
        (fun H3 e3 => ⟨K87.tiesAt G, fun _ => none, _, _, _, _, _, _, (p1.trans e2).trans e3, (L1.ex e2).ex e3, e3 _ _ h2, ⟨fun v _ t ht => K87.mem_tiesAt.mp ht, fun v _ t ht htv => .inl (K87.mem_tiesAt.mpr ⟨ht, htv⟩)⟩, fun v _ => by
          unfold K87.cnt
          congr 1, rfl⟩) (fun i σ' H' hi p => ?_) fun σ' H' p => ?_
      · obtain ⟨Lf, fd, x3, x4, x5, x7, x8, x9, q1, L2', f2, TA, B, rfl⟩ := p
        have hin : i < N := by omega
        refine q_asg (ev_var rfl) fun H3 e3 => ?_
        refine q_asg (ev_c (v := .int 0)) fun H4 e4 => ?_
        refine s_while (fun m σ' H' => ∃ (Lf : Nat → List Nat) (fd : Nat → Option Bool) (here : Nat) (turn : Bool) (x3 x4 x5 : Option V), m = K87.piles N Lf ∧ Ex H H' ∧ LL H' l as (fun p => natL (Lf p)) ∧ H' fl = some (.lst (optB G.length fd)) ∧ K87.TInv N G sd i Lf fd here turn ∧ σ' = [some (.ref gl), some (.int (N : Int)), some (.ref l), x3, x4, x5, some (.ref fl), some (.int (i : Int)), some (.int (here : Int)), some (.int (bI turn))]) _
          ⟨Lf, fd, i, false, _, _, _, rfl, (q1.trans e3).trans e4, (L2'.ex e3).ex e4, e4 _ _ (e3 _ _ f2), .start TA B hin, rfl⟩ fun m σ' H' hw => ?_
        obtain ⟨Lf, fd, here, turn, x3, x4, x5, rfl, q2, L3, f3, I, rfl⟩ := hw
        have hh := I.hl
        obtain ⟨a1, y1, y2, y3⟩ := L3.at (i := here) (by omega)
        refine ⟨decide (0 < (natL (Lf here)).length), ev_len0 (ev_row L3 (ev_var rfl) (ev_var rfl) y1) y3, fun hb H5 e5 => ?_, fun hb H5 e5 => ?_⟩
        · rw [natL_len, decide_eq_true_eq] at hb
          obtain ⟨la, t, hla⟩ := ex_snoc (l := Lf here) (fun z => by rw [z] at hb; exact absurd hb (Nat.lt_irrefl _))
          have L5 := L3.ex e5
          have y5 := e5 _ _ y3
          rw [hla, natL_app] at y5
          refine ⟨_, fun _ _ z => z, q_pop (x := .int (t : Int)) (xs := natL la) y5 (ev_row L5 (ev_var rfl) (ev_var rfl) y1) fun H6 e6 => ?_⟩
          have L6 : LL (upd H6 a1 (.lst (natL la))) l as (fun p => natL (K87.setf Lf here la p)) := ((L5.ex e6).put y1).congr fun p _ => by
            unfold K87.setf
            split <;> rfl
          have m6 : Ex H (upd H6 a1 (.lst (natL la))) := Ex.mut ((q2.trans e5).trans e6) (hfa _ (List.mem_of_getElem? y1))
          have f6 : (upd H6 a1 (.lst (natL la))) fl = some (.lst (optB G.length fd)) := by
            rw [upd_ne (nas _ (List.mem_of_getElem? y1))]
            exact e6 _ _ (e5 _ _ f3)
          have hps := K87.piles_set (L := Lf) (v := here) (l := la) hh
          rw [hla, List.length_append] at hps
          have hps' : K87.piles N (K87.setf Lf here la) < K87.piles N Lf := by
            have : [t].length = 1 := rfl
            omega
          generalize upd H6 a1 (.lst (natL la)) = G6 at L6 m6 f6 ⊢
          have htm : t ∈ Lf here := by rw [hla]; exact List.mem_append_right _ (List.mem_singleton_self _)
          obtain ⟨htl, htt⟩ := I.all.sub here hh t htm
          refine s_if (b := (fd t).isNone) (et_isN (ev_op (ev_var rfl) (ev_var rfl) (rv_ixL (sq_of f6) (atI_nat (optB_get htl)))) (by cases fd t <;> rfl)) (fun hb2 H7 e7 => ?_) (fun hb2 H7 e7 => ?_)
          · have hno := Option.isNone_iff_eq_none.mp hb2
            obtain ⟨_, _, I7⟩ := I.take wok two hla hno
            refine q_setL (j := t) (e7 _ _ f6) (ev_var rfl) (ev_var rfl) (ev_var rfl) (by rw [optB_len]; exact htl) fun H8 e8 => ?_
            rw [show V.int (bI turn) = oB (some turn) from rfl, optB_set]
            have L8 : LL (upd H8 fl (.lst (optB G.length (K87.setf fd t (some turn))))) l as (fun p => natL (K87.setf Lf here la p)) := ((L6.ex e7).ex e8).mut nl (fun z => nas _ z rfl)
            have m8 : Ex H (upd H8 fl (.lst (optB G.length (K87.setf fd t (some turn))))) := Ex.mut ((m6.trans e7).trans e8) hfl0
            have f8 : (upd H8 fl (.lst (optB G.length (K87.setf fd t (some turn))))) fl = some (.lst (optB G.length (K87.setf fd t (some turn)))) := upd_same
            generalize upd H8 fl (.lst (optB G.length (K87.setf fd t (some turn)))) = G8 at L8 m8 f8 ⊢
            refine q_asg (v := .int (bI (!turn))) (ev_is (ev_op ev_c (ev_var rfl) rv_I0) (congrArg V.int (bI_not _))) fun H9 e9 => ?_
            obtain ⟨xs, q, j1, _, j2, j3⟩ := (TG.ex (m8.trans e9)).at htl
            refine s_asg (v := .int (K87.far (K87.tieN G t) here : Nat)) (ev_is (ev_op (ev_op (ev_op (ev_op (ev_var rfl) (ev_var rfl) (rv_ixL (sq_of j1) (atI_nat j2))) ev_c (rv_ixT (st_of j3) rfl)) (ev_op (ev_op (ev_var rfl) (ev_var rfl) (rv_ixL (sq_of j1) (atI_nat j2))) ev_c (rv_ixT (st_of j3) rfl)) rv_I0) (ev_var rfl) rv_I0) (by
              have := K87.far_sum htt
              exact congrArg V.int (by omega))) fun H10 e10 => ?_
            exact ⟨_, hps', K87.setf Lf here la, _, _, !turn, _, _, _, rfl, (m8.trans e9).trans e10, (L8.ex e9).ex e10, e10 _ _ (e9 _ _ f8), I7, rfl⟩
          · have hso : fd t ≠ none := fun z => by rw [z] at hb2; cases hb2
            exact ⟨_, hps', K87.setf Lf here la, fd, here, turn, _, _, _, rfl, m6.trans e7, L6.ex e7, e7 _ _ f6, I.skip hla hso, rfl⟩
        · have hne : Lf here = [] := by
            rw [natL_len, decide_eq_false_iff_not] at hb
            exact List.eq_nil_of_length_eq_zero (by omega)
          exact ⟨Lf, fd, _, _, _, _, _, _, q2.trans e5, L3.ex e5, e5 _ _ f3, I.all, (I.shut ev hne).2, rfl⟩
      · obtain ⟨Lf, fd, x3, x4, x5, x7, x8, x9, q1, L2', f2, TA, B, rfl⟩ := p
        exact s_ret (ev_var rfl) fun H3 e3 => k _ H3 (q1.trans e3) ⟨fl, fd, rfl, e3 _ _ f2, B⟩
/-! halves -/
def HalfV (n : Nat) (E : List K87.Tie) : V → Hp → Prop := fun v H' => ∃ q l0 l1 h0 h1, v = .ref q ∧ H' q = some (.tup [.ref l0, .ref l1]) ∧ H' l0 = some (.lst (natL h0)) ∧ H' l1 = some (.lst (natL h1)) ∧ K87.Halved n E h0 h1
def HalfVF (H0 : Hp) (n : Nat) (E : List K87.Tie) : V → Hp → Prop := fun v H' => ∃ q l0 l1 h0 h1, v = .ref q ∧ H0 l0 = none ∧ H0 l1 = none ∧ H' q = some (.tup [.ref l0, .ref l1]) ∧ H' l0 = some (.lst (natL h0)) ∧ H' l1 = some (.lst (natL h1)) ∧ K87.Halved n E h0 h1
abbrev s_halves : Stmt := topS 35
abbrev n_halves : List Str := ["web", "sides", "turns", "ties", "tie"]
theorem sc_halves : FnScope n_halves ["web"] (defScope s_halves) := ⟨rfl, rfl, rfl, by decide +kernel, rfl, by decide +kernel, by decide +kernel⟩
def sp_halves : Sp := fun vs H Q _ => ∃ (a : Addr) (n : Nat) (E : List K87.Tie), vs = [.ref a] ∧ Web H a n E ∧ (∃ s, K87.Two E s) ∧ RetP (HalfVF H n E) H Q
theorem sp_halves_of {H : Hp} {a : Addr} {n : Nat} {E : List K87.Tie} (W : Web H a n E) (two : ∃ s, K87.Two E s) : ∀ H1, Ex H H1 → ∀ (Q : VK) (E' : XK), (∀ v H2, Ex H1 H2 → HalfV n E v H2 → Q v H2) → sp_halves [.ref a] H1 Q E' := fun H1 e Q _ q => ⟨a, n, E, rfl, W.ex e, two, fun v H2 e2 ⟨x, l0, l1, h0, h1, g0, _, _, g⟩ => q v H2 e2 ⟨x, l0, l1, h0, h1, g0, g⟩⟩
theorem sp_halves_fr {H : Hp} {a : Addr} {n : Nat} {E : List K87.Tie} (W : Web H a n E) (two : ∃ s, K87.Two E s) : ∀ H1, Ex H H1 → ∀ (Q : VK) (E' : XK), (∀ v H2, Ex H1 H2 → HalfVF H n E v H2 → Q v H2) → sp_halves [.ref a] H1 Q E' := fun H1 e Q _ q => ⟨a, n, E, rfl, W.ex e, two, fun v H2 e2 ⟨x, l0, l1, h0, h1, g0, f0, f1, g⟩ => q v H2 e2 ⟨x, l0, l1, h0, h1, g0, fresh_back e f0, fresh_back e f1, g⟩⟩
theorem ok_halves (D : DefAt K mg "halves" s_halves ["web"]) (T : Txt mg) (A_sides_of : At P w K mg base 5 "sides_of" ["web"] sp_sides_of) (A_evened_ties : At P w K mg base 5 "evened_ties" ["web", "sides"] sp_evened_ties) (A_turns_of : At P w K mg base 1 "turns_of" ["ties", "many"] sp_turns_of) : At P w K mg base 6 "halves" ["web"] sp_halves := D.at fun f fd F => by
  refine F.ok sc_halves (fun vs H Q E h => ?_) (fun cdv A outer s H vs Q E hr h => ?_)
  · obtain ⟨a, n, E, rfl, _⟩ := h
    rfl
  · obtain ⟨a, n, E, rfl, W, two, k⟩ := h
    refine ⟨_, (pss_cons (ps_set (i := 1) sc_halves.nd rfl (Or.inl rfl) (pe_at A_sides_of (hr.mono (by decide)) (pa_cons (pv 0) pa_nil)))
      (pss_cons (ps_set (i := 2) sc_halves.nd rfl (Or.inr rfl) (pe_at A_turns_of (hr.mono (by decide)) (pa_cons (pe_at A_evened_ties (hr.mono (by decide)) (pa_cons (pv 0) (pa_cons (pv 1) pa_nil))) (pa_cons (pe_op op_add (pe_ix ix_tup (pv 0) pe_int (fun _ _ => rfl)) pe_int) pa_nil))))
      (pss_cons (ps_set (i := 3) sc_halves.nd rfl (Or.inl rfl) (pe_listRg rfl rfl T.list (prg_1 rfl T.range (pe_callB call_len_seq (by rfl) T.len PySem.boot_len (pa_cons (pe_ix ix_tup (pv 0) pe_int (fun _ _ => rfl)) pa_nil)))))
      (pss_one (ps_ret (pe_tup (pa_cons (pe_lc (own := [("tie", 4)]) rfl sc_halves.nd (pi_list (pv 3)) (blkOk_by (own := [("tie", 4)]) (N := n_halves) (sc := defScope s_halves) (by decide +kernel)) (fun _ _ _ _ _ => (pg_name (i := 4) sc_halves.nd rfl (Or.inl rfl))) (fun _ _ _ _ _ => pts_one (pt_cmpR op_eq (pe_ix (r := rIxL K) ix_list (pv 2) (pv 4) (fun _ _ => rfl)) pe_int (nomark _))) (fun _ _ _ _ _ => (pv 4))) (pa_cons (pe_lc (own := [("tie", 4)]) rfl sc_halves.nd (pi_list (pv 3)) (blkOk_by (own := [("tie", 4)]) (N := n_halves) (sc := defScope s_halves) (by decide +kernel)) (fun _ _ _ _ _ => (pg_name (i := 4) sc_halves.nd rfl (Or.inl rfl))) (fun _ _ _ _ _ => pts_one (pt_cmpR op_eq (pe_ix (r := rIxL K) ix_list (pv 2) (pv 4) (fun _ _ => rfl)) pe_int (nomark _))) (fun _ _ _ _ _ => (pv 4))) pa_nil)))))))), ?_⟩
    have hln := W.ln
    have hle := W.le
    obtain ⟨b, as, CW⟩ := W.at_
    refine q_asgP (ep_call (P := fun v H2 => ∃ l, v = .ref l ∧ Sided n E l H2) (ea_cons (ev_var rfl) ea_nil) (sp_sides_of_of W two)) fun v H1 e1 hv => ?_
    obtain ⟨sl, rfl, sd, hsl, two'⟩ := hv
    have el : (K87.evened n E sd).length ≤ 1000 := by
      unfold K87.evened K87.extra
      have ol : (K87.odds n E).length ≤ n := K87.len_le_range K87.odds_nodup fun p hp => K87.odds_lt hp
      rw [List.length_append, List.length_append, List.length_map]
      split
      · show _ + (_ + 1) ≤ _; omega
      · show _ + (_ + 0) ≤ _; omega
    refine q_asgP (ep_callP (P := fun v H' => ∃ l, v = .ref l ∧ TL H' l (K87.evened n E sd)) (P' := fun v H' => ∃ l fd, v = .ref l ∧ H' l = some (.lst (optB (K87.evened n E sd).length fd)) ∧ K87.Bal (n + 2) (K87.evened n E sd) fd)
      (ep_call (ea_cons (ev_var rfl) (ea_cons (ev_var rfl) ea_nil)) fun H2 e2 Q _ q => ⟨a, sl, n, E, sd, rfl, (W.ex e1).ex e2, e2 _ _ hsl, q⟩) (fun v H2 e2 hv => ?_)) fun v H2 e2 hv => ?_
    · obtain ⟨gl, rfl, TG⟩ := hv
      refine ep_call (ea_cons ev_c (ea_cons (ev_op (ev_n ((CW.ex e1).ex e2) (ev_var rfl)) ev_c rv_I0) ea_nil)) fun H3 e3 Q _ q => ⟨gl, n + 2, K87.evened n E sd, _, rfl, TG.ex e3, K87.evened_WOk W.ok, K87.evened_Two W.ok two', K87.evened_Even W.ok two', by omega, el, q⟩
    · obtain ⟨fl, fd, rfl, hfl, B⟩ := hv
      have ex2 := e1.trans e2
      have Ha := K87.halved B
      refine q_asgL (el_rg (ev_m (CW.ex ex2) (ev_var rfl)) (by omega)) fun tl H3 htl e3 h3 => ?_
      have hfl3 := e3 _ _ hfl
      have half : ∀ (b : Bool) H4, Ex H3 H4 → EvL (tLc (iList K (tVar 3)) (gName 4) (tTest (tOp rEq (tOp (rIxL K) (tVar 2) (tVar 4)) (tC (.int (bI b))))) (tVar 4) [4]) [some (.ref a), some (.ref sl), some (.ref fl), some (.ref tl), none] H4 (natL (K87.half E.length fd b)) := fun b H4 e4 =>
        el_lcN (fun t => fd t == some b) (fun (t : Nat) => .int (t : Int)) (ev_var rfl) (e4 _ _ h3) (by rw [List.length_range]; omega) (fun _ => rfl) (fun t H5 e5 ht => et_test (ev_is (ev_op (ev_op (ev_var rfl) (ev_var rfl) (rv_ixL (sq_of (e5 _ _ (e4 _ _ hfl3))) (atI_nat (optB_get (by
          have := List.mem_range.mp ht
          unfold K87.evened
          rw [List.length_append]
          omega))))) ev_c (rv_eq (by cases fd t <;> rfl))) (congrArg V.bl (by
            cases hf : fd t with
            | none => rfl
            | some c => cases c <;> cases b <;> decide)))) (fun t H5 e5 ht _ => ev_var rfl)
      refine s_retP (ep_tupP2 (P := NewL H3 (natL (K87.half E.length fd false))) (P' := fun v H' => ∃ p, v = .ref p ∧ H3 p = none ∧ H' p = some (.lst (natL (K87.half E.length fd true)))) (EvL.p (half false H3 (Ex.refl _))) (fun H4 e4 => (EvL.p (half true H4 e4)).imp fun v H5 e5 hv => by obtain ⟨p, h1, h0, h2⟩ := hv; exact ⟨p, h1, fresh_back e4 h0, h2⟩) (fun v H1 H2 e h => by obtain ⟨p, h1, h2, h3⟩ := h; exact ⟨p, h1, h2, e _ _ h3⟩) (fun v H1 H2 e h => by obtain ⟨p, h1, h0, h2⟩ := h; exact ⟨p, h1, h0, e _ _ h2⟩)) fun v H4 e4 hv => ?_
      obtain ⟨q, x, y, rfl, hq, ⟨p, rfl, hf, h4⟩, ⟨p', rfl, hf', h5⟩⟩ := hv
      exact k _ H4 ((ex2.trans e3).trans e4) ⟨q, p, p', _, _, rfl, fresh_back (ex2.trans e3) hf, fresh_back (ex2.trans e3) hf', hq, h4, h5, Ha⟩
end
end K87W
/-! hueings.py -/
namespace K87W
open PySem PySem.Spec PyProof.Rows L2 Evl K87X
section
variable {K : PySem.W.Frag} {σ : L2.St} {H H' : Hp} {ta tb te td ty tv : TE} {x y z v : V} {D : Ends} {tz : TS} {d : Addr} {kvs : List (List Key × V)} {k : List Key}
theorem ev_isN {b : Bool} (h : Ev ta σ H x) (hb : decide (x = .non) = b) : Ev (tOp (fun x y H Q => y = .non ∧ Q (.bl (decide (x = .non))) H) ta (tC .non)) σ H (.bl b) := ev_op h ev_c fun H1 e Q q => ⟨rfl, by rw [hb]; exact q H1 (Ex.refl _)⟩
theorem et_dinU (hy : EvU ty σ H (k.map kV)) (h : ∀ H1, Ex H H1 → Ev td σ H1 (.ref d)) (hd : H d = some (.dT kvs)) : EvT (tB (tDIn ty td)) σ H (valV kvs k).isSome := fun H1 e Q q =>
  hy H1 e _ fun b H2 hb e2 h2 => h H2 (e.trans e2) H2 (Ex.refl _) _ fun H3 e3 => ⟨d, _, rfl, .inr ⟨kvs, k, b, .inl (e3 _ _ (e2 _ _ (e _ _ hd))), rfl, e3 _ _ h2, rfl⟩, _, rfl, q H3 (e2.trans e3)⟩
theorem s_dputT (hv : Ev tv σ H v) (hd : Ev td σ H (.ref d)) (hy : EvU ty σ H (k.map kV)) (h : H d = some (.dT kvs)) (hz : kvs.length < 100000) (q : ∀ H1, Ex H H1 → D.nx σ (upd H1 d (.dT (putK kvs k v)))) : sDPut td ty tv D σ H :=
  hv H (Ex.refl H) _ fun H1 e1 => hd H1 e1 _ fun H2 e2 => hy H2 (e1.trans e2) _ fun b H3 hb e3 h3 => ⟨d, _, rfl, .inr ⟨kvs, k, b, ((e1.trans e2).trans e3) _ _ h, rfl, h3, sz_lt hz, rfl⟩, q H3 ((e1.trans e2).trans e3)⟩
theorem ev_minN {l : Addr} (h : Ev ta σ H (.ref l)) (hl : H l = some (.lst [])) : Ev (rMinN K ta) σ H .non := fun H1 e Q q => h H1 e _ fun H2 e2 => ⟨l, rfl, sq_of (e2 _ _ (e _ _ hl)), q H2 e2⟩
end
section
variable {P : Program} {w : World} {K : PySem.W.Frag} {mg : Str → Option Value} {base : Heap}
abbrev s_is_hue : Stmt := topS 37
abbrev n_is_hue : List Str := ["thing"]
theorem sc_is_hue : FnScope n_is_hue ["thing"] (defScope s_is_hue) := ⟨rfl, rfl, rfl, by decide +kernel, rfl, by decide +kernel, by decide +kernel⟩
def sp_is_hue : Sp := fun vs H Q _ => ∃ o : Option Nat, vs = [oV o] ∧ RetV (.bl true) H Q
theorem sv_is_hue {H : Hp} (o : Option Nat) : SpV sp_is_hue [oV o] H (.bl true) := fun H1 _ Q q _ => ⟨o, rfl, fun H2 e2 => q H2 e2⟩
theorem ok_is_hue (D : DefAt K mg "is_hue" s_is_hue ["thing"]) (T : Txt mg) (A_is_number : At P w K mg base 1 "is_number" ["thing"] sp_is_number) : At P w K mg base 2 "is_hue" ["thing"] sp_is_hue := D.at fun f fd F => by
  refine F.ok sc_is_hue (fun vs H Q E h => ?_) (fun cdv A outer s H vs Q E hr h => ?_)
  · obtain ⟨o, rfl, _⟩ := h
    rfl
  · obtain ⟨o, rfl, k⟩ := h
    refine ⟨_, (pss_one (ps_ret (pe_or (pe_cmpR op_isN (pv 0) pe_non (nomark _)) (pe_one (pe_and (pe_at A_is_number (hr.mono (by decide)) (pa_cons (pv 0) pa_nil)) (pe_one (pe_cmpR op_ge (pv 0) pe_int (nomark _)))))))), ?_⟩
    cases o with
    | none => exact s_ret (ev_orV (a := true) (b := false) (ev_isN (ev_var rfl) rfl) (fun z => nomatch z)) fun H1 e => k H1 e
    | some t => exact s_ret (ev_orV (a := false) (b := true) (ev_isN (ev_var rfl) rfl) fun _ => ev_andV (a := true) (b := true) (ev_call (ea_cons (ev_var rfl) ea_nil) (sv_is_number _)) fun _ => ev_is (ev_op (ev_var rfl) ev_c rv_I0) (congrArg V.bl (decide_eq_true (show (0 : Int) ≤ (t : Int) by omega)))) fun H1 e => k H1 e
/-! clash_of -/
def hk (p c : Nat) : List Key := [.inl (p : Int), .inl (c : Int)]
theorem hk_inj {p c p' c' : Nat} : hk p c = hk p' c' ↔ p = p' ∧ c = c' := by
  unfold hk
  refine ⟨fun z => ?_, fun ⟨a, b⟩ => by rw [a, b]⟩
  injection z with z1 z2
  injection z2 with z2 _
  injection z1 with z1
  injection z2 with z2
  omega
/-- some tie below i of hue c stands at p, or the i-th does, p one of its first j ends -/
def Met (E : List K87.Tie) (h : K87.Hue) (i j p c : Nat) : Prop := (∃ t, t < i ∧ K87.touch (K87.tieN E t) p = true ∧ h t = some c) ∨ (h i = some c ∧ ((0 < j ∧ p = (K87.tieN E i).1) ∨ (1 < j ∧ p = (K87.tieN E i).2)))
abbrev s_clash_of : Stmt := topS 38
abbrev n_clash_of : List Str := ["web", "row", "first", "pairs", "tie", "hue", "place"]
theorem sc_clash_of : FnScope n_clash_of ["web", "row"] (defScope s_clash_of) := ⟨rfl, rfl, rfl, by decide +kernel, rfl, by decide +kernel, by decide +kernel⟩
def sp_clash_of : Sp := fun vs H Q _ => ∃ (a hl : Addr) (n : Nat) (E : List K87.Tie) (h : K87.Hue), vs = [.ref a, .ref hl] ∧ Web H a n E ∧ H hl = some (.lst (optL E.length h)) ∧ K87.Proper E h ∧ RetV .non H Q
theorem sv_clash_of {H : Hp} {a hl : Addr} {n : Nat} {E : List K87.Tie} {h : K87.Hue} (W : Web H a n E) (hh : H hl = some (.lst (optL E.length h))) (p : K87.Proper E h) : SpV sp_clash_of [.ref a, .ref hl] H .non := fun H1 e Q q _ => ⟨a, hl, n, E, h, rfl, W.ex e, e _ _ hh, p, fun H2 e2 => q H2 e2⟩
theorem ok_clash_of (D : DefAt K mg "clash_of" s_clash_of ["web", "row"]) (T : Txt mg) : At P w K mg base 1 "clash_of" ["web", "row"] sp_clash_of := D.at fun f fd F => by
  refine F.ok sc_clash_of (fun vs H Q E h => ?_) (fun cdv A outer s H vs Q E hr h => ?_)
  · obtain ⟨a, hl, n, E, hu, rfl, _⟩ := h
    rfl
  · obtain ⟨a, hl, n, E, hu, rfl, W, hh, pr, k⟩ := h
    refine ⟨_, (pss_cons (ps_set (i := 2) sc_clash_of.nd rfl (Or.inl rfl) pe_dnewT)
      (pss_cons (ps_set (i := 3) sc_clash_of.nd rfl (Or.inl rfl) (pe_lst pa_nil))
      (pss_cons (ps_for PassesOwn.never rfl (pi_enum (by rfl) T.enumerate (pa_cons (pv 1) pa_nil)) (pg_tup rfl (pgs_cons (pg_name (i := 4) sc_clash_of.nd rfl (Or.inl rfl)) (pgs_cons (pg_name (i := 5) sc_clash_of.nd rfl (Or.inl rfl)) pgs_nil))) (pss_one (ps_for PassesOwn.never rfl (pi_tup (pe_ix ix_tup (pe_ix ix_tup (pv 0) pe_int (fun _ _ => rfl)) (pv 4) (fun _ _ => rfl))) (pg_name (i := 6) sc_clash_of.nd rfl (Or.inl rfl)) (pss_one (ps_if (pw_and (pt_cmpR op_notN (pv 5) pe_non (nomark _)) (pw_and1 (pt_cmp (pc_din (hu_of hr) (pe_tup (pa_cons (pv 6) (pa_cons (pv 5) pa_nil))) (pv 2))))).pt (pss_one (ps_expr (pe_bm PySem.F.plainAttrs_list PySem.F.slot_list_append PySem.F.type_list_append mt_append (pv 3) (pa_cons (pe_tup (pa_cons (pe_dget (hu_of hr) (pv 2) (pe_tup (pa_cons (pv 6) (pa_cons (pv 5) pa_nil))) (fun _ _ => rfl)) (pa_cons (pv 4) pa_nil))) pa_nil)))) (pss_one (ps_if (pt_cmpR op_notN (pv 5) pe_non (nomark _)) (pss_one (ps_dput (hu_of hr) (pv 2) (pe_tup (pa_cons (pv 6) (pa_cons (pv 5) pa_nil))) (pv 4) rfl)) pss_nil)))))))
      (pss_one (ps_ret (pe_minN hr.units rfl (by rfl) T.min (pv 3))))))), ?_⟩
    have hle := W.le
    obtain ⟨b, as, CW⟩ := W.at_
    refine q_asgP ep_newT fun v H1 e1 hv => ?_
    obtain ⟨d, rfl, hd0, hd1⟩ := hv
    refine q_asgL (el_lst ea_nil (show 0 ≤ 100000 by decide)) fun pl H2 hpl e2 h2 => ?_
    have ex2 := e1.trans e2
    refine q_forEL (ea_cons (ev_var rfl) ea_nil) (ex2 _ _ hh) (fun i σ' H' => ∃ kvs x4 x5 x6, Ex H H' ∧ H' d = some (.dT kvs) ∧ kvs.length ≤ 2 * i ∧ H' pl = some (.lst []) ∧ (∀ p c, (valV kvs (hk p c)).isSome = true ↔ Met E hu i 0 p c) ∧ σ' = [some (.ref a), some (.ref hl), some (.ref d), some (.ref pl), x4, x5, x6])
      (fun H3 e3 => ⟨[], _, _, _, ex2.trans e3, e3 _ _ (e2 _ _ hd1), by simp, e3 _ _ h2, fun p c => by
        rw [valV_nil]
        refine ⟨fun z => (by cases z), fun z => ?_⟩
        rcases z with ⟨t, z, _⟩ | ⟨_, z⟩
        · exact absurd z (Nat.not_lt_zero _)
        · omega, rfl⟩) (fun i σ' H' _ p => by obtain ⟨_, _, _, _, p1, _⟩ := p; exact p1 _ _ hh) (fun i x T σ' H' hx p hT => ?_) fun σ' H' p => ?_
    · obtain ⟨kvs, x4, x5, x6, p1, hdk, hkl, hp, hm, rfl⟩ := p
      have hi : i < E.length := by rw [← optL_len (n := E.length) (f := hu)]; exact (List.getElem?_eq_some_iff.mp hx).1
      rw [optL_get hi] at hx
      cases hx
      refine g_pair upd_same ?_
      have e0 := Ex.new (o := .tup [.int (i : Int), oV (hu i)]) hT
      have p0 := p1.trans e0
      have d0 := e0 _ _ hdk
      have pl0 := e0 _ _ hp
      generalize upd H' T (.tup [.int (i : Int), oV (hu i)]) = G0 at e0 p0 d0 pl0 ⊢
      obtain ⟨q, z1, z2, z3⟩ := CW.tie_at hi
      have ho := W.ok _ (K87.tieN_mem hi)
      refine s_forTn (ev_tie (CW.ex p0) (ev_var rfl) (ev_var rfl) z1) (st_of (p0 _ _ z3)) (fun j σ' H' => ∃ kvs x6, Ex H H' ∧ H' d = some (.dT kvs) ∧ kvs.length ≤ 2 * i + j ∧ H' pl = some (.lst []) ∧ (∀ p c, (valV kvs (hk p c)).isSome = true ↔ Met E hu i j p c) ∧ σ' = [some (.ref a), some (.ref hl), some (.ref d), some (.ref pl), some (.int (i : Int)), some (oV (hu i)), x6])
        (fun H3 e3 => ⟨kvs, _, p0.trans e3, e3 _ _ d0, by omega, e3 _ _ pl0, hm, rfl⟩) (fun j σ' H' _ p => by obtain ⟨_, _, p1, _⟩ := p; exact st_of (p1 _ _ z3)) (fun j x σ' H' hx p => ?_) fun σ' H' p => ?_
      · obtain ⟨kvs, x6, p3, d3, kl3, pl3, hm3, rfl⟩ := p
        have hj2 : j < 2 := (List.getElem?_eq_some_iff.mp hx).1
        -- the j-th end
        have hend : ∃ g : Nat, x = .int (g : Int) ∧ K87.touch (K87.tieN E i) g = true ∧ (∀ p c, Met E hu i (j + 1) p c ↔ Met E hu i j p c ∨ (hu i = some c ∧ p = g)) ∧ ∀ c, hu i = some c → ¬ Met E hu i j g c := by
          have nomet : ∀ g c, K87.touch (K87.tieN E i) g = true → hu i = some c → ¬ ∃ t, t < i ∧ K87.touch (K87.tieN E t) g = true ∧ hu t = some c := fun g c hg hc ⟨t, ht, h1, h2⟩ => by
            have := pr t i g c (by omega) hi h1 hg h2 hc
            omega
          rcases (show j = 0 ∨ j = 1 by omega) with rfl | rfl
          · refine ⟨(K87.tieN E i).1, by cases hx; rfl, K87.touch_iff.mpr (.inl rfl), fun p c => ?_, fun c hc hm => ?_⟩
            · unfold Met
              constructor
              · rintro (z | ⟨z, z' | z'⟩)
                · exact .inl (.inl z)
                · exact .inr ⟨z, z'.2⟩
                · omega
              · rintro ((z | ⟨z, z'⟩) | ⟨z, z'⟩)
                · exact .inl z
                · omega
                · exact .inr ⟨z, .inl ⟨by omega, z'⟩⟩
            · rcases hm with z | ⟨_, z⟩
              · exact nomet _ c (K87.touch_iff.mpr (.inl rfl)) hc z
              · omega
          · refine ⟨(K87.tieN E i).2, by cases hx; rfl, K87.touch_iff.mpr (.inr rfl), fun p c => ?_, fun c hc hm => ?_⟩
            · unfold Met
              constructor
              · rintro (z | ⟨z, z' | z'⟩)
                · exact .inl (.inl z)
                · exact .inl (.inr ⟨z, .inl ⟨by omega, z'.2⟩⟩)
                · exact .inr ⟨z, z'.2⟩
              · rintro ((z | ⟨z, z' | z'⟩) | ⟨z, z'⟩)
                · exact .inl z
                · exact .inr ⟨z, .inl ⟨by omega, z'.2⟩⟩
                · omega
                · exact .inr ⟨z, .inr ⟨by omega, z'⟩⟩
            · rcases hm with z | ⟨_, z⟩
              · exact nomet _ c (K87.touch_iff.mpr (.inr rfl)) hc z
              · omega
        obtain ⟨g, rfl, hg, hstep, hno⟩ := hend
        cases hc : hu i with
        | none =>
          refine s_if (b := false) (et_and (a := false) (b := false) (et_notN (ev_var rfl) rfl) (fun z => nomatch z)) (fun z => nomatch z) fun _ H4 e4 => ?_
          refine s_when (b := false) (et_notN (ev_var rfl) rfl) (fun z => nomatch z) fun _ H5 e5 => ?_
          refine ⟨kvs, _, (p3.trans e4).trans e5, e5 _ _ (e4 _ _ d3), by omega, e5 _ _ (e4 _ _ pl3), fun p c => ?_, rfl⟩
          rw [hm3, hstep, hc]
          exact ⟨.inl, fun z => z.elim id fun z => by cases z.1⟩
        | some c0 =>
          have hf : (valV kvs (hk g c0)).isSome = false := by
            cases hz : (valV kvs (hk g c0)).isSome with
            | false => rfl
            | true => exact absurd ((hm3 g c0).mp hz) (hno c0 hc)
          have kU : ∀ H4, Ex H' H4 → EvU (tTup (tCons (tVar 6) (tCons (tVar 5) tNil))) [some (.ref a), some (.ref hl), some (.ref d), some (.ref pl), some (.int (i : Int)), some (oV (some c0)), some (.int (g : Int))] H4 ((hk g c0).map kV) := fun H4 e4 => eu_tup2 (ev_var rfl) (ev_var rfl)
          refine s_if (b := false) (et_and (a := true) (b := false) (et_notN (ev_var rfl) rfl) fun _ => et_is (et_dinU (kU H' (Ex.refl _)) (fun H4 e4 => ev_var rfl) d3) hf) (fun z => nomatch z) fun _ H4 e4 => ?_
          refine s_when (b := true) (et_notN (ev_var rfl) rfl) (fun _ H5 e5 => ?_) (fun z => nomatch z)
          have d5 := e5 _ _ (e4 _ _ d3)
          refine s_dputT (v := .int (i : Int)) (ev_var rfl) (ev_var rfl) (kU H5 (e4.trans e5)) d5 (by omega) fun H6 e6 => ?_
          have nv : valV kvs (hk g c0) = none := Option.not_isSome_iff_eq_none.mp (by rw [hf]; decide)
          refine ⟨_, _, Ex.mut (((p3.trans e4).trans e5).trans e6) hd0, upd_same, by have := length_putK kvs (hk g c0) (.int (i : Int)); omega, ?_, fun p c => ?_, rfl⟩
          · rw [upd_ne (fun z => by rw [z, d3] at pl3; cases pl3)]
            exact e6 _ _ (e5 _ _ (e4 _ _ pl3))
          · rw [hstep, ← hm3, valV_put]
            by_cases hpc : hk p c = hk g c0
            · rw [if_pos hpc]
              obtain ⟨z1, z2⟩ := hk_inj.mp hpc
              exact ⟨fun _ => .inr ⟨by rw [hc, z2], z1⟩, fun _ => rfl⟩
            · rw [if_neg hpc]
              refine ⟨.inl, fun z => z.elim id fun ⟨z1, z2⟩ => ?_⟩
              rw [hc] at z1
              injection z1 with z1
              exact absurd (hk_inj.mpr ⟨z2, z1.symm⟩) hpc
      · obtain ⟨kvs, x6, p3, d3, kl3, pl3, hm3, rfl⟩ := p
        refine ⟨kvs, _, _, _, p3, d3, by have : [V.int (((K87.tieN E i).1 : Nat) : Int), V.int (((K87.tieN E i).2 : Nat) : Int)].length = 2 := rfl; omega, pl3, fun p c => ?_, rfl⟩
        rw [hm3]
        unfold Met
        constructor
        · rintro (⟨t, z1, z2, z3⟩ | ⟨z, z' | z'⟩)
          · exact .inl ⟨t, by omega, z2, z3⟩
          · exact .inl ⟨i, by omega, K87.touch_iff.mpr (.inl z'.2.symm), z⟩
          · exact .inl ⟨i, by omega, K87.touch_iff.mpr (.inr z'.2.symm), z⟩
        · rintro (⟨t, g1, g2, g3⟩ | ⟨z, z'⟩)
          · by_cases hti : t = i
            · rw [hti] at g2 g3
              refine .inr ⟨g3, ?_⟩
              rcases K87.touch_iff.mp g2 with q | q
              · exact .inl ⟨show 0 < 2 by decide, q.symm⟩
              · exact .inr ⟨show 1 < 2 by decide, q.symm⟩
            · exact .inl ⟨t, by omega, g2, g3⟩
          · omega
    · obtain ⟨kvs, x4, x5, x6, p1, hdk, hkl, hp, hm, rfl⟩ := p
      exact s_ret (ev_minN (ev_var rfl) hp) fun H3 e3 => k H3 (p1.trans e3)
/-! is_hueing, is_whole -/
abbrev s_is_hueing : Stmt := topS 39
abbrev n_is_hueing : List Str := ["web", "thing", "hue"]
theorem sc_is_hueing : FnScope n_is_hueing ["web", "thing"] (defScope s_is_hueing) := ⟨rfl, rfl, rfl, by decide +kernel, rfl, by decide +kernel, by decide +kernel⟩
def sp_is_hueing : Sp := fun vs H Q _ => ∃ (a hl : Addr) (n : Nat) (E : List K87.Tie) (h : K87.Hue), vs = [.ref a, .ref hl] ∧ Web H a n E ∧ H hl = some (.lst (optL E.length h)) ∧ K87.Proper E h ∧ RetV (.bl true) H Q
theorem sv_is_hueing {H : Hp} {a hl : Addr} {n : Nat} {E : List K87.Tie} {h : K87.Hue} (W : Web H a n E) (hh : H hl = some (.lst (optL E.length h))) (p : K87.Proper E h) : SpV sp_is_hueing [.ref a, .ref hl] H (.bl true) := fun H1 e Q q _ => ⟨a, hl, n, E, h, rfl, W.ex e, e _ _ hh, p, fun H2 e2 => q H2 e2⟩
theorem ok_is_hueing (D : DefAt K mg "is_hueing" s_is_hueing ["web", "thing"]) (T : Txt mg) (A_is_hue : At P w K mg base 2 "is_hue" ["thing"] sp_is_hue) (A_clash_of : At P w K mg base 1 "clash_of" ["web", "row"] sp_clash_of) : At P w K mg base 3 "is_hueing" ["web", "thing"] sp_is_hueing := D.at fun f fd F => by
  refine F.ok sc_is_hueing (fun vs H Q E h => ?_) (fun cdv A outer s H vs Q E hr h => ?_)
  · obtain ⟨a, hl, n, E, hu, rfl, _⟩ := h
    rfl
  · obtain ⟨a, hl, n, E, hu, rfl, W, hh, pr, k⟩ := h
    refine ⟨_, (pss_cons (ps_if (pw_or (pt_not (pt_val (pe_callB call_isiT (by rfl) T.isinstance (by decide +kernel) (pa_cons (pv 1) (pa_cons (pe_tup (pa_cons (pe_bltn (v := .ty "list") (by rfl) T.list (by decide +kernel) rfl) (pa_cons (pe_bltn (v := .ty "tuple") (by rfl) T.tuple (by decide +kernel) rfl) pa_nil))) pa_nil))))) (pw_or1 (pt_cmpR op_ne (pe_callB call_len_seq (by rfl) T.len PySem.boot_len (pa_cons (pv 1) pa_nil)) (pe_callB call_len_seq (by rfl) T.len PySem.boot_len (pa_cons (pe_ix ix_tup (pv 0) pe_int (fun _ _ => rfl)) pa_nil)) (nomark _)))).pt (pss_one (ps_ret pe_bl)) pss_nil)
      (pss_one (ps_ret (pe_and (pe_callB (cr_all rfl) (by rfl) T.all (by decide +kernel) (pa_cons (pe_lc (own := [("hue", 2)]) rfl sc_is_hueing.nd (pi_list (pv 1)) (blkOk_by (own := [("hue", 2)]) (N := n_is_hueing) (sc := defScope s_is_hueing) (by decide +kernel)) (fun _ _ _ _ _ => (pg_name (i := 2) sc_is_hueing.nd rfl (Or.inl rfl))) (fun _ _ _ _ _ => pts_nil) (fun _ _ _ _ _ => (pe_at A_is_hue (hr.mono (by decide)) (pa_cons (pv 2) pa_nil)))) pa_nil)) (pe_one (pe_cmpR op_isN (pe_at A_clash_of (hr.mono (by decide)) (pa_cons (pv 0) (pa_cons (pv 1) pa_nil))) pe_non (nomark _))))))), ?_⟩
    have hle := W.le
    obtain ⟨b, as, CW⟩ := W.at_
    refine q_when (b := false) (et_or (a := false) (b := false) (et_not (a := true) (et_B (ev_isiLT (ev_var rfl) hh))) fun _ => et_test (ev_is (ev_op (ev_len (K := K) (ev_var rfl) (sq_of hh)) (ev_m CW (ev_var rfl)) (rv_ne rfl)) (by rw [optL_len]; simp))) (fun z => nomatch z) fun _ H1 e1 => ?_
    have h1 := e1 _ _ hh
    refine s_ret (ev_andV (a := true) (b := true) (ev_allT (el_lcL (fun _ => true) (fun _ => .bl true) (ev_var rfl) (sq_of h1) (by rw [optL_len]; omega) (fun _ => rfl) (fun i x H2 e2 hx => et_yes) (fun i x H2 e2 hx _ => ?_))) fun _ => ev_isN (ev_call (ea_cons (ev_var rfl) (ea_cons (ev_var rfl) ea_nil)) (sv_clash_of (W.ex e1) h1 pr)) rfl) fun H2 e2 => k H2 (e1.trans e2)
    have hi : i < E.length := by rw [← optL_len (n := E.length) (f := hu)]; exact (List.getElem?_eq_some_iff.mp hx).1
    rw [optL_get hi] at hx
    cases hx
    exact ev_call (ea_cons (ev_var rfl) ea_nil) (sv_is_hue _)
theorem inV_oV (c m : Nat) (h : Nat → Option Nat) (l : List Nat) : inV (.int (c : Int)) (l.map fun t => oV (h t)) = l.any fun t => h t == some c := by
  unfold inV
  rw [List.any_map]
  congr 1
  funext t
  show eqV (oV (h t)) (.int (c : Int)) = _
  cases h t with
  | none => rfl
  | some z =>
    show ((z : Int) == (c : Int)) = _
    rw [beq_cast]
    rfl
theorem oV_flat (o : Option Nat) : flatV (oV o) = true := by cases o <;> rfl
theorem optL_flat {n : Nat} {f : Nat → Option Nat} : (optL n f).all flatV = true := by
  unfold optL
  rw [List.all_map, List.all_eq_true]
  intro x _
  exact oV_flat _
abbrev s_is_whole : Stmt := topS 40
abbrev n_is_whole : List Str := ["web", "thing"]
theorem sc_is_whole : FnScope n_is_whole ["web", "thing"] (defScope s_is_whole) := ⟨rfl, rfl, rfl, by decide +kernel, rfl, by decide +kernel, by decide +kernel⟩
def sp_is_whole : Sp := fun vs H Q _ => ∃ (a hl : Addr) (n : Nat) (E : List K87.Tie) (h : K87.Hue), vs = [.ref a, .ref hl] ∧ Web H a n E ∧ H hl = some (.lst (optL E.length h)) ∧ K87.Proper E h ∧ (∀ t, t < E.length → h t ≠ none) ∧ RetV (.bl true) H Q
theorem sv_is_whole {H : Hp} {a hl : Addr} {n : Nat} {E : List K87.Tie} {h : K87.Hue} (W : Web H a n E) (hh : H hl = some (.lst (optL E.length h))) (p : K87.Proper E h) (hw : ∀ t, t < E.length → h t ≠ none) : SpV sp_is_whole [.ref a, .ref hl] H (.bl true) := fun H1 e Q q _ => ⟨a, hl, n, E, h, rfl, W.ex e, e _ _ hh, p, hw, fun H2 e2 => q H2 e2⟩
theorem ok_is_whole (D : DefAt K mg "is_whole" s_is_whole ["web", "thing"]) (T : Txt mg) (A_is_hueing : At P w K mg base 3 "is_hueing" ["web", "thing"] sp_is_hueing) : At P w K mg base 4 "is_whole" ["web", "thing"] sp_is_whole := D.at fun f fd F => by
  refine F.ok sc_is_whole (fun vs H Q E h => ?_) (fun cdv A outer s H vs Q E hr h => ?_)
  · obtain ⟨a, hl, n, E, hu, rfl, _⟩ := h
    rfl
  · obtain ⟨a, hl, n, E, hu, rfl, W, hh, pr, hw, k⟩ := h
    refine ⟨_, (pss_one (ps_ret (pe_and (pe_at A_is_hueing (hr.mono (by decide)) (pa_cons (pv 0) (pa_cons (pv 1) pa_nil))) (pe_one (pe_cmpR op_notIn_seq pe_non (pv 1) (by rfl)))))), ?_⟩
    refine s_ret (ev_andV (a := true) (b := true) (ev_call (ea_cons (ev_var rfl) (ea_cons (ev_var rfl) ea_nil)) (sv_is_hueing W hh pr)) fun _ => ev_is (ev_op (x := .non) ev_c (ev_var rfl) (rv_niL (sq_of hh) rfl optL_flat)) (congrArg V.bl ?_)) fun H2 e2 => k H2 e2
    rw [Bool.not_eq_true']
    unfold inV optL
    rw [List.any_map, List.any_eq_false]
    intro t ht
    have := hw t (List.mem_range.mp ht)
    show ¬ eqV (oV (hu t)) .non = true
    cases hz : hu t with
    | none => exact absurd hz this
    | some c => exact fun z => by cases z
/-! hues_at, free_at -/
theorem ep_sortedI {σ : L2.St} {H : Hp} {ta : TE} {L : List Nat} (h : EvL ta σ H (natL L)) : EvP (tCB (rSortedI K) (tCons ta tNil)) σ H fun v H' => ∃ l ts, v = .ref l ∧ H' l = some (.lst (natL ts)) ∧ ∀ c, c ∈ ts ↔ c ∈ L := fun H0 e Q q0 =>
  h H0 e _ fun l H1 hl1 e1 h1 => ⟨l, L.map fun (t : Nat) => (t : Int), rfl, sq_of (by rw [h1]; congr 2; unfold natL; rw [List.map_map]; rfl), fun ns' q hpm hpw hq => by
    obtain ⟨ts, rfl⟩ := nats_of ns' fun k hk => by
      obtain ⟨t, _, rfl⟩ := List.mem_map.mp (hpm.mem_iff.mp hk)
      omega
    refine q0 _ _ (e1.trans (Ex.new hq)) ⟨q, ts, rfl, by rw [upd_same]; congr 2; unfold natL; rw [List.map_map]; rfl, fun c => ?_⟩
    have := hpm.mem_iff (a := (c : Int))
    constructor
    · intro z
      obtain ⟨t, z1, z2⟩ := List.mem_map.mp (this.mp (List.mem_map.mpr ⟨c, z, rfl⟩))
      have : t = c := by omega
      rw [← this]
      exact z1
    · intro z
      obtain ⟨t, z1, z2⟩ := List.mem_map.mp (this.mpr (List.mem_map.mpr ⟨c, z, rfl⟩))
      have : t = c := by omega
      rw [← this]
      exact z1⟩
abbrev s_hues_at : Stmt := topS 41
abbrev n_hues_at : List Str := ["web", "hueing", "place", "tie"]
theorem sc_hues_at : FnScope n_hues_at ["web", "hueing", "place"] (defScope s_hues_at) := ⟨rfl, rfl, rfl, by decide +kernel, rfl, by decide +kernel, by decide +kernel⟩
def HuesV (E : List K87.Tie) (h : K87.Hue) (p : Nat) : V → Hp → Prop := fun v H' => ∃ l ns, v = .ref l ∧ H' l = some (.lst (natL ns)) ∧ ∀ c, c ∈ ns ↔ K87.usedAt E h p c = true
def sp_hues_at : Sp := fun vs H Q _ => ∃ (a hl : Addr) (n p : Nat) (E : List K87.Tie) (h : K87.Hue), vs = [.ref a, .ref hl, .int p] ∧ Web H a n E ∧ H hl = some (.lst (optL E.length h)) ∧ p < n ∧ RetP (HuesV E h p) H Q
theorem ok_hues_at (D : DefAt K mg "hues_at" s_hues_at ["web", "hueing", "place"]) (T : Txt mg) (A_ties_at : At P w K mg base 3 "ties_at" ["web", "place"] sp_ties_at) : At P w K mg base 4 "hues_at" ["web", "hueing", "place"] sp_hues_at := D.at fun f fd F => by
  refine F.ok sc_hues_at (fun vs H Q E h => ?_) (fun cdv A outer s H vs Q E hr h => ?_)
  · obtain ⟨a, hl, n, p, E, hu, rfl, _⟩ := h
    rfl
  · obtain ⟨a, hl, n, p, E, hu, rfl, W, hh, hp, k⟩ := h
    refine ⟨_, (pss_one (ps_ret (pe_callB cr_sortedI (by rfl) T.sorted (by decide +kernel) (pa_cons (pe_lc (own := [("tie", 3)]) rfl sc_hues_at.nd (pi_list (pe_at A_ties_at (hr.mono (by decide)) (pa_cons (pv 0) (pa_cons (pv 2) pa_nil)))) (blkOk_by (own := [("tie", 3)]) (N := n_hues_at) (sc := defScope s_hues_at) (by decide +kernel)) (fun _ _ _ _ _ => (pg_name (i := 3) sc_hues_at.nd rfl (Or.inl rfl))) (fun _ _ _ _ _ => pts_one (pt_cmpR op_notN (pe_ix (r := rIxL K) ix_list (pv 1) (pv 3) (fun _ _ => rfl)) pe_non (nomark _))) (fun _ _ _ _ _ => (pe_ix (r := rIxL K) ix_list (pv 1) (pv 3) (fun _ _ => rfl)))) pa_nil)))), ?_⟩
    have hle := W.le
    refine s_retP (ep_sortedI (L := (((K87.tiesAt E p).filter fun t => (hu t).isSome).map fun t => (hu t).getD 0)) (el_is (xs := ((K87.tiesAt E p).filter fun t => (hu t).isSome).map fun t => oV (hu t)) (el_bindI (P := NewL H (natL (K87.tiesAt E p))) (EvL.p (el_call (ea_cons (ev_var rfl) (ea_cons (ev_var rfl) ea_nil)) (sl_ties_at W hp))) fun v H1 e1 hv => ?_) ?_)) fun v H1 e1 hv => ?_
    · obtain ⟨l, rfl, _, hl1⟩ := hv
      exact el_lcN (l := K87.tiesAt E p) (fun t => (hu t).isSome) (fun t => oV (hu t)) ev_c hl1 (by have := K87.tiesAt_len E p; omega) (fun _ => rfl) (fun t H2 e2 ht => et_notN (ev_op (ev_var rfl) (ev_var rfl) (rv_ixL (sq_of (e2 _ _ (e1 _ _ hh))) (atI_nat (optL_get (K87.mem_tiesAt.mp ht).1)))) (by rw [oV_non]; cases hu t <;> rfl)) (fun t H2 e2 ht _ => ev_op (ev_var rfl) (ev_var rfl) (rv_ixL (sq_of (e2 _ _ (e1 _ _ hh))) (atI_nat (optL_get (K87.mem_tiesAt.mp ht).1))))
    · unfold natL
      rw [List.map_map]
      refine List.map_congr_left fun t ht => ?_
      have := (List.mem_filter.mp ht).2
      show oV (hu t) = V.int (((hu t).getD 0 : Nat) : Int)
      cases hz : hu t with
      | none => rw [hz] at this; cases this
      | some c => rfl
    obtain ⟨q, ts, rfl, hq, h3⟩ := hv
    refine k _ H1 e1 ⟨q, ts, rfl, hq, fun c => ?_⟩
    rw [h3]
    unfold K87.usedAt
    rw [List.mem_map, List.any_eq_true]
    constructor
    · rintro ⟨t, z1, z2⟩
      obtain ⟨z3, z4⟩ := List.mem_filter.mp z1
      refine ⟨t, z3, ?_⟩
      cases hz : hu t with
      | none => rw [hz] at z4; cases z4
      | some c' =>
        rw [hz] at z2
        rw [show c = c' from z2.symm]
        exact beq_self_eq_true _
    · rintro ⟨t, z1, z2⟩
      have z3 : hu t = some c := eq_of_beq z2
      exact ⟨t, List.mem_filter.mpr ⟨z1, by rw [z3]; rfl⟩, by rw [z3]; rfl⟩
abbrev s_free_at : Stmt := topS 42
abbrev n_free_at : List Str := ["web", "hueing", "place", "hues", "taken", "hue"]
theorem sc_free_at : FnScope n_free_at ["web", "hueing", "place", "hues"] (defScope s_free_at) := ⟨rfl, rfl, rfl, by decide +kernel, rfl, by decide +kernel, by decide +kernel⟩
def sp_free_at : Sp := fun vs H Q _ => ∃ (a hl : Addr) (n p m : Nat) (E : List K87.Tie) (h : K87.Hue), vs = [.ref a, .ref hl, .int p, .int m] ∧ Web H a n E ∧ H hl = some (.lst (optL E.length h)) ∧ p < n ∧ m ≤ 1000 ∧ RetL (natL (K87.freeL E h p m)) H Q
theorem sl_free_at {H : Hp} {a hl : Addr} {n p m : Nat} {E : List K87.Tie} {h : K87.Hue} (W : Web H a n E) (hh : H hl = some (.lst (optL E.length h))) (hp : p < n) (hm : m ≤ 1000) : SpL sp_free_at [.ref a, .ref hl, .int p, .int m] H (natL (K87.freeL E h p m)) := fun H1 e Q q _ => ⟨a, hl, n, p, m, E, h, rfl, W.ex e, e _ _ hh, hp, hm, fun p H2 h1 h2 h3 => q p H2 h1 h2 h3⟩
theorem ok_free_at (D : DefAt K mg "free_at" s_free_at ["web", "hueing", "place", "hues"]) (T : Txt mg) (A_hues_at : At P w K mg base 4 "hues_at" ["web", "hueing", "place"] sp_hues_at) : At P w K mg base 5 "free_at" ["web", "hueing", "place", "hues"] sp_free_at := D.at fun f fd F => by
  refine F.ok sc_free_at (fun vs H Q E h => ?_) (fun cdv A outer s H vs Q E hr h => ?_)
  · obtain ⟨a, hl, n, p, m, E, hu, rfl, _⟩ := h
    rfl
  · obtain ⟨a, hl, n, p, m, E, hu, rfl, W, hh, hp, hm, k⟩ := h
    refine ⟨_, (pss_cons (ps_set (i := 4) sc_free_at.nd rfl (Or.inr rfl) (pe_at A_hues_at (hr.mono (by decide)) (pa_cons (pv 0) (pa_cons (pv 1) (pa_cons (pv 2) pa_nil)))))
      (pss_one (ps_ret (pe_lc (own := [("hue", 5)]) rfl sc_free_at.nd (pi_range1 rfl T.range (pa_cons (pv 3) pa_nil)) (blkOk_by (own := [("hue", 5)]) (N := n_free_at) (sc := defScope s_free_at) (by decide +kernel)) (fun _ _ _ _ _ => (pg_name (i := 5) sc_free_at.nd rfl (Or.inl rfl))) (fun _ _ _ _ _ => pts_one (pt_cmpR (r := rIn K true) op_notIn_seq (pv 5) (pv 4) (by rfl))) (fun _ _ _ _ _ => (pv 5)))))), ?_⟩
    refine q_asgP (ep_call (P := HuesV E hu p) (ea_cons (ev_var rfl) (ea_cons (ev_var rfl) (ea_cons (ev_var rfl) ea_nil))) fun H1 e1 Q _ q => ⟨a, hl, n, p, E, hu, rfl, W.ex e1, e1 _ _ hh, hp, q⟩) fun v H1 e1 hv => ?_
    obtain ⟨l, ns, rfl, hl1, hns⟩ := hv
    refine s_retL (xs := natL (K87.freeL E hu p m)) (el_is (el_lcR1 (n := (m : Int)) (fun c => !K87.usedAt E hu p c) (fun (c : Nat) => .int (c : Int)) (ea_cons (ev_var rfl) ea_nil) (by omega) (fun _ => rfl) (fun c H2 e2 hc => et_test (ev_is (ev_op (ev_var rfl) (ev_var rfl) (rv_niL (sq_of (e2 _ _ hl1)) rfl (natL_flat _))) (congrArg V.bl (by
      rw [inV_natL]
      congr 1
      rw [Bool.eq_iff_iff, decide_eq_true_eq]
      exact hns c)))) (fun c H2 e2 hc _ => ev_var rfl)) ?_) fun q H2 hq e2 h2 => k.go e1 hq e2 h2
    rw [show ((m : Int).toNat) = m by omega]
    rfl
end
end K87W
/-! rows.py -/
namespace K87W
open PySem PySem.Spec PyProof.Rows L2 Evl K87X
section
variable {K : PySem.W.Frag} {σ : L2.St} {H H' : Hp} {ta tb te td ty tv : TE} {x y z v : V} {D : Ends} {tz : TS} {t : TA} {xs ys : List V} {sp : Sp} {E : XK} {i j : Nat}
theorem q_par (h : EvA t σ H [x, y]) (k : ∀ H1, Ex H H1 → tz D ((σ.set i (some x)).set j (some y)) H1) : tSeq (tPar i j t) tz D σ H := h H (Ex.refl _) _ fun H1 e1 => ⟨x, y, rfl, k H1 e1⟩
/-- a call one of whose arguments is a new list -/
theorem el_callA {args : Addr → List V} (hA : ∀ H0, Ex H H0 → ∀ Q : List V → Hp → Prop, (∀ p H1, Ex H0 H1 → H1 p = some (.lst ys) → Q (args p) H1) → t σ H0 Q) (hs : ∀ p H1, Ex H H1 → H1 p = some (.lst ys) → SpL sp (args p) H1 xs) : EvL (tCall sp [] E t) σ H xs := fun H0 e Q q =>
  hA H0 e _ fun p H1 e1 h1 => by
    show sp (args p ++ []) H1 Q E
    rw [List.append_nil]
    exact hs p H1 (e.trans e1) h1 H1 (Ex.refl _) Q (fun r H2 hr e2 h2 => q r H2 (fresh_back e1 hr) (e1.trans e2) h2) E
end
section
variable {P : Program} {w : World} {K : PySem.W.Frag} {mg : Str → Option Value} {base : Heap}
theorem dec_oV (o : Option Nat) (c : Nat) : decide (oV o = .int (c : Int)) = (o == some c) := by
  cases o with
  | none => rfl
  | some z => rw [Bool.eq_iff_iff, decide_eq_true_eq, beq_iff_eq]; exact ⟨fun q => by injection q with q; congr 1; omega, fun q => by injection q with q; rw [q]; rfl⟩
theorem scal_oV (o : Option Nat) (c : Int) : scal (oV o) (.int c) = true := by cases o <;> rfl
abbrev s_tie_of : Stmt := topS 44
abbrev n_tie_of : List Str := ["web", "hueing", "place", "hue", "tie"]
theorem sc_tie_of : FnScope n_tie_of ["web", "hueing", "place", "hue"] (defScope s_tie_of) := ⟨rfl, rfl, rfl, by decide +kernel, rfl, by decide +kernel, by decide +kernel⟩
def sp_tie_of : Sp := fun vs H Q _ => ∃ (a hl : Addr) (n p c : Nat) (E : List K87.Tie) (h : K87.Hue), vs = [.ref a, .ref hl, .int p, .int c] ∧ Web H a n E ∧ H hl = some (.lst (optL E.length h)) ∧ p < n ∧ RetV (oV (K87.tieOf E h p c)) H Q
theorem sv_tie_of {H : Hp} {a hl : Addr} {n p c : Nat} {E : List K87.Tie} {h : K87.Hue} (W : Web H a n E) (hh : H hl = some (.lst (optL E.length h))) (hp : p < n) : SpV sp_tie_of [.ref a, .ref hl, .int p, .int c] H (oV (K87.tieOf E h p c)) := fun H1 e Q q _ => ⟨a, hl, n, p, c, E, h, rfl, W.ex e, e _ _ hh, hp, fun H2 e2 => q H2 e2⟩
theorem ok_tie_of (D : DefAt K mg "tie_of" s_tie_of ["web", "hueing", "place", "hue"]) (T : Txt mg) (A_ties_at : At P w K mg base 3 "ties_at" ["web", "place"] sp_ties_at) : At P w K mg base 4 "tie_of" ["web", "hueing", "place", "hue"] sp_tie_of := D.at fun f fd F => by
  refine F.ok sc_tie_of (fun vs H Q E h => ?_) (fun cdv A outer s H vs Q E hr h => ?_)
  · obtain ⟨a, hl, n, p, c, E, hu, rfl, _⟩ := h
    rfl
  · obtain ⟨a, hl, n, p, c, E, hu, rfl, W, hh, hp, k⟩ := h
    refine ⟨_, (pss_cons (ps_for PassesOwn.never rfl (pi_list (pe_at A_ties_at (hr.mono (by decide)) (pa_cons (pv 0) (pa_cons (pv 2) pa_nil)))) (pg_name (i := 4) sc_tie_of.nd rfl (Or.inl rfl)) (pss_one (ps_if (pt_cmpR op_eq (pe_ix ix_list (pv 1) (pv 4) (fun _ _ => rfl)) (pv 3) (nomark _)) (pss_one (ps_ret (pv 4))) pss_nil)))
      (pss_one (ps_ret pe_non))), ?_⟩
    refine q_forNLn (el_call (ea_cons (ev_var rfl) (ea_cons (ev_var rfl) ea_nil)) (sl_ties_at W hp)) (fun pa i σ' H' => Ex H H' ∧ H' pa = some (.lst (natL (K87.tiesAt E p))) ∧ (∀ j, j < i → j < (K87.tiesAt E p).length → hu ((K87.tiesAt E p).getD j 0) ≠ some c) ∧ ∃ x4, σ' = [some (.ref a), some (.ref hl), some (.int (p : Int)), some (.int (c : Int)), x4])
      (fun pa H1 _ e1 h1 => ⟨e1, h1, fun j hj => absurd hj (Nat.not_lt_zero _), _, rfl⟩) (fun pa i σ' H' _ q => sq_of q.2.1) (fun pa i x σ' H' hx q => ?_) fun pa σ' H' q => ?_
    · obtain ⟨p1, hpa, hj, x4, rfl⟩ := q
      obtain ⟨hi, rfl⟩ := natL_of hx
      have htl := (K87.mem_tiesAt.mp (getD_mem' hi)).1
      refine s_when (b := hu ((K87.tiesAt E p).getD i 0) == some c) (et_test (ev_is (ev_op (ev_op (ev_var rfl) (ev_var rfl) (rv_ixL (sq_of (p1 _ _ hh)) (atI_nat (optL_get htl)))) (ev_var rfl) (rv_eq (scal_oV _ _))) (congrArg V.bl (dec_oV _ _)))) (fun hb H1 e1 => ?_) (fun hb H1 e1 => ?_)
      · refine s_ret (ev_is (ev_var rfl) ?_) fun H2 e2 => k H2 ((p1.trans e1).trans e2)
        have : K87.tieOf E hu p c = some ((K87.tiesAt E p).getD i 0) := by
          unfold K87.tieOf
          rw [List.find?_eq_some_iff_getElem]
          refine ⟨hb, i, hi, by rw [List.getD_eq_getElem?_getD, List.getElem?_eq_getElem hi]; rfl, fun j hji => ?_⟩
          have := hj j hji (by omega)
          rw [List.getD_eq_getElem?_getD, List.getElem?_eq_getElem (by omega)] at this
          rw [Bool.not_eq_true', beq_eq_false_iff_ne]
          exact this
        rw [this]
        rfl
      · refine ⟨p1.trans e1, e1 _ _ hpa, fun j hji hjl => ?_, _, rfl⟩
        by_cases hij : j = i
        · rw [hij]
          exact fun z => by rw [z] at hb; simp at hb
        · exact hj j (by omega) hjl
    · obtain ⟨p1, hpa, hj, x4, rfl⟩ := q
      rw [natL_len] at hj
      refine s_ret (ev_is ev_c ?_) fun H2 e2 => k H2 (p1.trans e2)
      have : K87.tieOf E hu p c = none := by
        unfold K87.tieOf
        rw [List.find?_eq_none]
        intro t ht
        obtain ⟨j, hjl, ej⟩ := List.mem_iff_getElem.mp ht
        have := hj j hjl hjl
        rw [List.getD_eq_getElem?_getD, List.getElem?_eq_getElem hjl] at this
        rw [← ej]
        intro z
        exact this (eq_of_beq z)
      rw [this]
      rfl
abbrev s_look_hues : Stmt := topS 45
abbrev n_look_hues : List Str := ["one", "other"]
theorem sc_look_hues : FnScope n_look_hues ["one", "other"] (defScope s_look_hues) := ⟨rfl, rfl, rfl, by decide +kernel, rfl, by decide +kernel, by decide +kernel⟩
def sp_look_hues : Sp := fun vs H Q _ => ∃ (c d : Nat), vs = [.int c, .int d] ∧ c ≠ d ∧ RetV .non H Q
theorem sv_look_hues {H : Hp} {c d : Nat} (h : c ≠ d) : SpV sp_look_hues [.int c, .int d] H .non := fun H1 _ Q q _ => ⟨c, d, rfl, h, fun H2 e2 => q H2 e2⟩
theorem ok_look_hues (D : DefAt K mg "look_hues" s_look_hues ["one", "other"]) : At P w K mg base 1 "look_hues" ["one", "other"] sp_look_hues := D.at fun f fd F => by
  refine F.ok sc_look_hues (fun vs H Q E h => ?_) (fun cdv A outer s H vs Q E hr h => ?_)
  · obtain ⟨c, d, rfl, _⟩ := h
    rfl
  · obtain ⟨c, d, rfl, h, k⟩ := h
    refine ⟨_, (pss_one (ps_if (pt_cmpR op_eq (pv 0) (pv 1) (nomark _)) pss_never pss_nil)), ?_⟩
    refine s_when (b := false) (et_test (ev_is (ev_op (ev_var rfl) (ev_var rfl) (rv_eq rfl)) (congrArg V.bl (decide_eq_false (fun z => h (by injection z with z; omega)))))) (fun z => nomatch z) fun _ H1 e1 => k H1 e1
abbrev s_row_from : Stmt := topS 46
abbrev n_row_from : List Str := ["web", "hueing", "place", "one", "other", "held", "found", "due", "then", "tie"]
theorem sc_row_from : FnScope n_row_from ["web", "hueing", "place", "one", "other"] (defScope s_row_from) := ⟨rfl, rfl, rfl, by decide +kernel, rfl, by decide +kernel, by decide +kernel⟩
def sp_row_from : Sp := fun vs H Q _ => ∃ (a hl : Addr) (n p c d : Nat) (E : List K87.Tie) (h : K87.Hue), vs = [.ref a, .ref hl, .int p, .int c, .int d] ∧ Web H a n E ∧ H hl = some (.lst (optL E.length h)) ∧ p < n ∧ c ≠ d ∧ K87.NoAt E h p d ∧ K87.rowEnds E h (2 * n) p c d ∧ RetL (natL (K87.rowL E h (2 * n) p c d)) H Q
theorem sl_row_from {H : Hp} {a hl : Addr} {n p c d : Nat} {E : List K87.Tie} {h : K87.Hue} (W : Web H a n E) (hh : H hl = some (.lst (optL E.length h))) (hp : p < n) (hcd : c ≠ d) (hno : K87.NoAt E h p d) (hre : K87.rowEnds E h (2 * n) p c d) : SpL sp_row_from [.ref a, .ref hl, .int p, .int c, .int d] H (natL (K87.rowL E h (2 * n) p c d)) := fun H1 e Q q _ => ⟨a, hl, n, p, c, d, E, h, rfl, W.ex e, e _ _ hh, hp, hcd, hno, hre, fun p H2 h1 h2 h3 => q p H2 h1 h2 h3⟩
theorem ok_row_from (D : DefAt K mg "row_from" s_row_from ["web", "hueing", "place", "one", "other"]) (T : Txt mg) (A_ties_at : At P w K mg base 3 "ties_at" ["web", "place"] sp_ties_at) (A_look_hues : At P w K mg base 1 "look_hues" ["one", "other"] sp_look_hues) (A_tie_of : At P w K mg base 4 "tie_of" ["web", "hueing", "place", "hue"] sp_tie_of)
    (A_far_end : At P w K mg base 3 "far_end" ["web", "tie", "place"] sp_far_end) : At P w K mg base 5 "row_from" ["web", "hueing", "place", "one", "other"] sp_row_from := D.at fun f fd F => by
  refine F.ok sc_row_from (fun vs H Q E h => ?_) (fun cdv A outer s H vs Q E hr h => ?_)
  · obtain ⟨a, hl, n, p, c, d, E, hu, rfl, _⟩ := h
    rfl
  · obtain ⟨a, hl, n, p, c, d, E, hu, rfl, W, hh, hp, hcd, hno, hre, k⟩ := h
    refine ⟨_, (pss_cons (ps_set (i := 5) sc_row_from.nd rfl (Or.inl rfl) (pe_at A_ties_at (hr.mono (by decide)) (pa_cons (pv 0) (pa_cons (pv 2) pa_nil))))
      (pss_cons (ps_expr (pe_at A_look_hues (hr.mono (by decide)) (pa_cons (pv 3) (pa_cons (pv 4) pa_nil))))
      (pss_cons (ps_if (pt_cmpR op_in_seq (pv 4) (pe_lc (own := [("tie", 9)]) rfl sc_row_from.nd (pi_list (pv 5)) (blkOk_by (own := [("tie", 9)]) (N := n_row_from) (sc := defScope s_row_from) (by decide +kernel)) (fun _ _ _ _ _ => (pg_name (i := 9) sc_row_from.nd rfl (Or.inl rfl))) (fun _ _ _ _ _ => pts_nil) (fun _ _ _ _ _ => (pe_ix (r := rIxL K) ix_list (pv 1) (pv 9) (fun _ _ => rfl)))) (by rfl)) pss_never pss_nil)
      (pss_cons (ps_set (i := 6) sc_row_from.nd rfl (Or.inl rfl) (pe_lst pa_nil))
      (pss_cons (ps_par (i := 7) (j := 8) (by rfl) sc_row_from.nd rfl rfl (by decide) rfl rfl (pa_cons (pv 3) (pa_cons (pv 4) pa_nil)) (by rfl))
      (pss_cons (ps_set (i := 9) sc_row_from.nd rfl (Or.inl rfl) (pe_at A_tie_of (hr.mono (by decide)) (pa_cons (pv 0) (pa_cons (pv 1) (pa_cons (pv 2) (pa_cons (pv 7) pa_nil))))))
      (pss_cons (ps_while PassesOwn.never (pt_cmpR op_notN (pv 9) pe_non (nomark _)) (pss_cons (ps_expr (pe_bm PySem.F.plainAttrs_list PySem.F.slot_list_append PySem.F.type_list_append mt_append (pv 6) (pa_cons (pv 9) pa_nil)))
      (pss_cons (ps_set (i := 2) sc_row_from.nd rfl (Or.inl rfl) (pe_at A_far_end (hr.mono (by decide)) (pa_cons (pv 0) (pa_cons (pv 9) (pa_cons (pv 2) pa_nil)))))
      (pss_cons (ps_par (i := 7) (j := 8) (by rfl) sc_row_from.nd rfl rfl (by decide) rfl rfl (pa_cons (pv 8) (pa_cons (pv 7) pa_nil)) (by rfl))
      (pss_one (ps_set (i := 9) sc_row_from.nd rfl (Or.inl rfl) (pe_at A_tie_of (hr.mono (by decide)) (pa_cons (pv 0) (pa_cons (pv 1) (pa_cons (pv 2) (pa_cons (pv 7) pa_nil)))))))))))
      (pss_one (ps_ret (pv 6)))))))))), ?_⟩
    have hln := W.ln
    have hle := W.le
    refine q_asgL (el_call (ea_cons (ev_var rfl) (ea_cons (ev_var rfl) ea_nil)) (sl_ties_at W hp)) fun he H1 hhe e1 h1 => ?_
    refine q_drop (ev_call (ea_cons (ev_var rfl) (ea_cons (ev_var rfl) ea_nil)) (sv_look_hues hcd)) fun H2 e2 => ?_
    have ex2 := e1.trans e2
    refine q_when (b := false) (et_test (ev_is (ev_opL (xs := (K87.tiesAt E p).map fun t => oV (hu t)) (ev_var rfl) (el_is (el_lcN (l := K87.tiesAt E p) (fun _ => true) (fun t => oV (hu t)) (ev_var rfl) (e2 _ _ h1) (by have := K87.tiesAt_len E p; omega) (fun _ => rfl) (fun t H3 e3 ht => et_yes) (fun t H3 e3 ht _ => ev_op (ev_var rfl) (ev_var rfl) (rv_ixL (sq_of ((ex2.trans e3) _ _ hh)) (atI_nat (optL_get (K87.mem_tiesAt.mp ht).1))))) (by rw [List.filter_eq_self.mpr fun _ _ => rfl])) (fun q H3 hq e3 => rv_isL (sq_of hq) rfl (by
      rw [List.all_map, List.all_eq_true]
      intro t _
      exact oV_flat _))) (congrArg V.bl (by
        rw [inV_oV d 0]
        rw [List.any_eq_false]
        intro t ht z
        obtain ⟨h3, h4⟩ := K87.mem_tiesAt.mp ht
        exact hno t h3 h4 (eq_of_beq z))))) (fun z => nomatch z) fun _ H3 e3 => ?_
    refine q_asgL (el_lst ea_nil (show 0 ≤ 100000 by decide)) fun fo H4 hfo e4 h4 => ?_
    have ex4 := (ex2.trans e3).trans e4
    have hfo0 := fresh_back (ex2.trans e3) hfo
    refine q_par (ea_cons (ev_var rfl) (ea_cons (ev_var rfl) ea_nil)) fun H5 e5 => ?_
    have ex5 := ex4.trans e5
    refine q_asg (ev_call (ea_cons (ev_var rfl) (ea_cons (ev_var rfl) (ea_cons (ev_var rfl) (ea_cons (ev_var rfl) ea_nil)))) (sv_tie_of (W.ex ex5) (ex5 _ _ hh) hp)) fun H6 e6 => ?_
    refine q_while (fun m σ' H' => ∃ q x y fl, Ex H H' ∧ H' fo = some (.lst (natL fl)) ∧ q < n ∧ fl.length + m = 2 * n ∧ fl ++ K87.rowL E hu m q x y = K87.rowL E hu (2 * n) p c d ∧ K87.rowEnds E hu m q x y ∧ σ' = [some (.ref a), some (.ref hl), some (.int ((q : Nat) : Int)), some (.int (c : Int)), some (.int (d : Int)), some (.ref he), some (.ref fo), some (.int ((x : Nat) : Int)), some (.int ((y : Nat) : Int)), some (oV (K87.tieOf E hu q x))]) (2 * n)
      ⟨p, c, d, [], ex5.trans e6, e6 _ _ (e5 _ _ h4), hp, by simp, rfl, hre, rfl⟩ fun m σ' H' hw => ?_
    obtain ⟨q, x, y, fl, p1, hf, hq, hm, hfl, hre1, rfl⟩ := hw
    refine ⟨(K87.tieOf E hu q x).isSome, et_notN (ev_var rfl) (by rw [oV_non]; cases K87.tieOf E hu q x <;> rfl), fun hb H7 e7 => ?_, fun hb H7 e7 => ?_⟩
    · obtain ⟨t, ht⟩ := Option.isSome_iff_exists.mp hb
      obtain ⟨g1, g2, g3⟩ := K87.tieOf_some ht
      match m, hm, hfl, hre1 with
      | 0, hm, hfl, hre1 =>
        rw [show K87.rowEnds E hu 0 q x y = (K87.tieOf E hu q x = none) from rfl, ht] at hre1
        cases hre1
      | m + 1, hm, hfl, hre1 =>
        have r1 : K87.rowL E hu (m + 1) q x y = t :: K87.rowL E hu m (K87.far (K87.tieN E t) q) y x := by
          show (match K87.tieOf E hu q x with | none => [] | some t => t :: K87.rowL E hu m (K87.far (K87.tieN E t) q) y x) = _
          rw [ht]
        have r2 : K87.rowEnds E hu m (K87.far (K87.tieN E t) q) y x := by
          have : (match K87.tieOf E hu q x with | none => True | some t => K87.rowEnds E hu m (K87.far (K87.tieN E t) q) y x) := hre1
          rw [ht] at this
          exact this
        refine ⟨_, fun _ _ z => z, ?_⟩
        rw [ht]
        refine q_app (e7 _ _ hf) (ev_var rfl) (ev_var rfl) (by rw [natL_len]; omega) fun H8 e8 => ?_
        have p8 : Ex H (upd H8 fo (.lst (natL fl ++ [oV (some t)]))) := Ex.mut ((p1.trans e7).trans e8) hfo0
        have f8 : (upd H8 fo (.lst (natL fl ++ [oV (some t)]))) fo = some (.lst (natL (fl ++ [t]))) := by rw [upd_same, natL_app]; rfl
        generalize upd H8 fo (.lst (natL fl ++ [oV (some t)])) = G8 at p8 f8 ⊢
        refine q_asg (ev_call (ea_cons (ev_var rfl) (ea_cons (ev_var rfl) (ea_cons (ev_var rfl) ea_nil))) (sv_far_end (W.ex p8) g1 g2)) fun H9 e9 => ?_
        refine q_par (ea_cons (ev_var rfl) (ea_cons (ev_var rfl) ea_nil)) fun H10 e10 => ?_
        have p10 := (p8.trans e9).trans e10
        have hfar := K87.far_lt W.ok (p := q) g1
        refine s_asg (ev_call (ea_cons (ev_var rfl) (ea_cons (ev_var rfl) (ea_cons (ev_var rfl) (ea_cons (ev_var rfl) ea_nil)))) (sv_tie_of (c := y) (W.ex p10) (p10 _ _ hh) hfar)) fun H11 e11 => ?_
        refine ⟨m, Nat.lt_succ_self _, _, y, x, fl ++ [t], p10.trans e11, e11 _ _ (e10 _ _ (e9 _ _ f8)), hfar, by rw [List.length_append]; show fl.length + 1 + m = _; omega, ?_, r2, rfl⟩
        rw [List.append_assoc, ← hfl, r1]
        rfl
    · have hn : K87.tieOf E hu q x = none := Option.not_isSome_iff_eq_none.mp (by rw [hb]; decide)
      have r1 : K87.rowL E hu m q x y = [] := by
        cases m with
        | zero => rfl
        | succ m =>
          show (match K87.tieOf E hu q x with | none => [] | some t => t :: K87.rowL E hu m (K87.far (K87.tieN E t) q) y x) = _
          rw [hn]
      rw [r1, List.append_nil] at hfl
      rw [hfl] at hf
      exact s_ret (ev_var rfl) fun H8 e8 => k fo H8 hfo0 ((p1.trans e7).trans e8) (e8 _ _ (e7 _ _ hf))
abbrev s_other_of : Stmt := topS 47
abbrev n_other_of : List Str := ["hue", "one", "other"]
theorem sc_other_of : FnScope n_other_of ["hue", "one", "other"] (defScope s_other_of) := ⟨rfl, rfl, rfl, by decide +kernel, rfl, by decide +kernel, by decide +kernel⟩
def sp_other_of : Sp := fun vs H Q _ => ∃ (x c d : Nat), vs = [.int x, .int c, .int d] ∧ RetV (.int ((if x = c then d else c : Nat) : Int)) H Q
theorem sv_other_of {H : Hp} (x c d : Nat) : SpV sp_other_of [.int x, .int c, .int d] H (.int ((if x = c then d else c : Nat) : Int)) := fun H1 _ Q q _ => ⟨x, c, d, rfl, fun H2 e2 => q H2 e2⟩
theorem ok_other_of (D : DefAt K mg "other_of" s_other_of ["hue", "one", "other"]) : At P w K mg base 1 "other_of" ["hue", "one", "other"] sp_other_of := D.at fun f fd F => by
  refine F.ok sc_other_of (fun vs H Q E h => ?_) (fun cdv A outer s H vs Q E hr h => ?_)
  · obtain ⟨x, c, d, rfl, _⟩ := h
    rfl
  · obtain ⟨x, c, d, rfl, k⟩ := h
    refine ⟨_, (pss_one (ps_ret (pe_ifExp (pt_cmpR op_eq (pv 0) (pv 1) (nomark _)) (pv 2) (pv 1)))), ?_⟩
    exact s_ret (ev_if (b := decide (x = c)) (et_test (ev_is (ev_op (ev_var rfl) (ev_var rfl) (rv_eq rfl)) (congrArg V.bl (dec_cast _ _)))) (fun hb => ev_is (ev_var rfl) (by rw [if_pos (of_decide_eq_true hb)])) fun hb => ev_is (ev_var rfl) (by rw [if_neg (of_decide_eq_false hb)])) fun H1 e1 => k H1 e1
abbrev s_exchanged : Stmt := topS 48
abbrev n_exchanged : List Str := ["web", "hueing", "ties", "one", "other", "made", "tie"]
theorem sc_exchanged : FnScope n_exchanged ["web", "hueing", "ties", "one", "other"] (defScope s_exchanged) := ⟨rfl, rfl, rfl, by decide +kernel, rfl, by decide +kernel, by decide +kernel⟩
def sp_exchanged : Sp := fun vs H Q _ => ∃ (a hl tl : Addr) (n c d : Nat) (E : List K87.Tie) (h : K87.Hue) (l : List Nat), vs = [.ref a, .ref hl, .ref tl, .int c, .int d] ∧ Web H a n E ∧ H hl = some (.lst (optL E.length h)) ∧ H tl = some (.lst (natL l)) ∧ c ≠ d ∧ (∀ t ∈ l, t < E.length ∧ (h t = some c ∨ h t = some d)) ∧ K87.Proper E (K87.swapF c d l h) ∧ RetL (optL E.length (K87.swapF c d l h)) H Q
theorem sl_exchanged {H : Hp} {a hl tl : Addr} {n c d : Nat} {E : List K87.Tie} {h : K87.Hue} {l : List Nat} (W : Web H a n E) (hh : H hl = some (.lst (optL E.length h))) (ht : H tl = some (.lst (natL l))) (hcd : c ≠ d) (h2 : ∀ t ∈ l, t < E.length ∧ (h t = some c ∨ h t = some d)) (pr : K87.Proper E (K87.swapF c d l h)) : SpL sp_exchanged [.ref a, .ref hl, .ref tl, .int c, .int d] H (optL E.length (K87.swapF c d l h)) := fun H1 e Q q _ => ⟨a, hl, tl, n, c, d, E, h, l, rfl, W.ex e, e _ _ hh, e _ _ ht, hcd, h2, pr, fun p H2 h1 h2 h3 => q p H2 h1 h2 h3⟩
theorem optL_congr {n : Nat} {f g : Nat → Option Nat} (h : ∀ t, t < n → f t = g t) : optL n f = optL n g := by
  unfold optL
  exact List.map_congr_left fun t ht => by rw [h t (List.mem_range.mp ht)]
theorem ok_exchanged (D : DefAt K mg "exchanged" s_exchanged ["web", "hueing", "ties", "one", "other"]) (T : Txt mg) (A_look_hues : At P w K mg base 1 "look_hues" ["one", "other"] sp_look_hues) (A_other_of : At P w K mg base 1 "other_of" ["hue", "one", "other"] sp_other_of) (A_is_hueing : At P w K mg base 3 "is_hueing" ["web", "thing"] sp_is_hueing) :
    At P w K mg base 4 "exchanged" ["web", "hueing", "ties", "one", "other"] sp_exchanged := D.at fun f fd F => by
  refine F.ok sc_exchanged (fun vs H Q E h => ?_) (fun cdv A outer s H vs Q E hr h => ?_)
  · obtain ⟨a, hl, tl, n, c, d, E, hu, l, rfl, _⟩ := h
    rfl
  · obtain ⟨a, hl, tl, n, c, d, E, hu, l, rfl, W, hh, ht, hcd, h2, pr, k⟩ := h
    refine ⟨_, (pss_cons (ps_expr (pe_at A_look_hues (hr.mono (by decide)) (pa_cons (pv 3) (pa_cons (pv 4) pa_nil))))
      (pss_cons (ps_set (i := 5) sc_exchanged.nd rfl (Or.inl rfl) (pe_callTy call_list_of (by rfl) T.list (by decide +kernel) (pa_cons (pv 1) pa_nil)))
      (pss_cons (ps_for PassesOwn.never rfl (pi_list (pv 2)) (pg_name (i := 6) sc_exchanged.nd rfl (Or.inl rfl)) (pss_cons (ps_if (pt_cmpR op_notIn_seq (pe_ix ix_list (pv 1) (pv 6) (fun _ _ => rfl)) (pe_tup (pa_cons (pv 3) (pa_cons (pv 4) pa_nil))) (by rfl)) pss_never pss_nil)
      (pss_one (ps_asg (pe_at A_other_of (hr.mono (by decide)) (pa_cons (pe_ix ix_list (pv 1) (pv 6) (fun _ _ => rfl)) (pa_cons (pv 3) (pa_cons (pv 4) pa_nil)))) (pg_sub (pv 5) (pv 6) set_list)))))
      (pss_cons (ps_if (pt_not (pt_val (pe_at A_is_hueing (hr.mono (by decide)) (pa_cons (pv 0) (pa_cons (pv 5) pa_nil))))) pss_never pss_nil)
      (pss_one (ps_ret (pv 5))))))), ?_⟩
    refine q_drop (ev_call (ea_cons (ev_var rfl) (ea_cons (ev_var rfl) ea_nil)) (sv_look_hues hcd)) fun H1 e1 => ?_
    refine q_asgL (el_list (ev_var rfl) (sq_of (e1 _ _ hh))) fun md H2 hmd e2 h2' => ?_
    have ex2 := e1.trans e2
    have hmd0 := fresh_back e1 hmd
    refine q_forLn (ev_var rfl) (sq_of (ex2 _ _ ht)) (fun i σ' H' => ∃ x6, Ex H H' ∧ H' md = some (.lst (optL E.length (K87.swapF c d (l.take i) hu))) ∧ σ' = [some (.ref a), some (.ref hl), some (.ref tl), some (.int (c : Int)), some (.int (d : Int)), some (.ref md), x6]) (fun H3 e3 => ⟨_, ex2.trans e3, by
      rw [e3 _ _ h2']
      congr 2, rfl⟩) (fun i σ' H' _ p => by obtain ⟨_, p1, _⟩ := p; exact sq_of (p1 _ _ ht)) (fun i x σ' H' hx p => ?_) fun σ' H' p => ?_
    · obtain ⟨x6, p1, m1, rfl⟩ := p
      obtain ⟨hi, rfl⟩ := natL_of hx
      have htm := getD_mem' hi
      have htk : l.take (i + 1) = l.take i ++ [l.getD i 0] := by
        rw [List.take_succ, List.getElem?_eq_getElem hi, List.getD_eq_getElem?_getD, List.getElem?_eq_getElem hi]
        rfl
      generalize l.getD i 0 = t at htm htk ⊢
      obtain ⟨htl, hcc⟩ := h2 t htm
      obtain ⟨x, hx', hxc⟩ : ∃ x, hu t = some x ∧ (x = c ∨ x = d) := by
        rcases hcc with z | z
        · exact ⟨c, z, .inl rfl⟩
        · exact ⟨d, z, .inr rfl⟩
      have hv : ∀ {H3 : Hp}, Ex H H3 → Ev (tOp (rIxL K) (tVar 1) (tVar 6)) [some (.ref a), some (.ref hl), some (.ref tl), some (.int (c : Int)), some (.int (d : Int)), some (.ref md), some (.int ((t : Nat) : Int))] H3 (.int ((x : Nat) : Int)) := fun e => ev_is (ev_op (ev_var rfl) (ev_var rfl) (rv_ixL (sq_of (e _ _ hh)) (atI_nat (optL_get htl)))) (by rw [hx']; rfl)
      refine q_when (b := false) (et_test (ev_is (ev_niU (hv p1) (eu_tup2 (ev_var rfl) (ev_var rfl)) rfl rfl) (by
        rw [inV_pair, show K87.touch (c, d) x = true from K87.touch_iff.mpr (hxc.imp Eq.symm Eq.symm)]; rfl))) (fun z => nomatch z) fun _ H3 e3 => ?_
      refine s_setL (j := t) (e3 _ _ m1) (ev_call (ea_cons (hv (p1.trans e3)) (ea_cons (ev_var rfl) (ea_cons (ev_var rfl) ea_nil))) (sv_other_of x c d)) (ev_var rfl) (ev_var rfl) (by rw [optL_len]; exact htl) fun H4 e4 => ?_
      refine ⟨_, Ex.mut ((p1.trans e3).trans e4) hmd0, ?_, rfl⟩
      rw [upd_same, show V.int ((if x = c then d else c : Nat) : Int) = oV (some (if x = c then d else c)) from rfl, optL_set, htk]
      congr 2
      refine optL_congr fun u _ => ?_
      unfold K87.setf K87.swapF
      by_cases hut : u = t
      · subst hut
        rw [if_pos rfl, if_pos (List.mem_append_right _ (List.mem_singleton_self _)), hx']
        by_cases hxc' : x = c
        · rw [if_pos hxc', if_pos (by rw [hxc'])]
        · rw [if_neg hxc', if_neg (fun z => hxc' (by injection z))]
      · rw [if_neg hut]
        by_cases hum : u ∈ l.take i
        · rw [if_pos hum, if_pos (List.mem_append_left _ hum)]
        · rw [if_neg hum, if_neg (fun z => (List.mem_append.mp z).elim hum fun z => hut (List.mem_singleton.mp z))]
    · obtain ⟨x6, p1, m1, rfl⟩ := p
      rw [natL_len, List.take_length] at m1
      refine q_when (b := false) (et_not (a := true) (et_B (ev_call (ea_cons (ev_var rfl) (ea_cons (ev_var rfl) ea_nil)) (sv_is_hueing (W.ex p1) m1 pr)))) (fun z => nomatch z) fun _ H3 e3 => ?_
      exact s_ret (ev_var rfl) fun H4 e4 => k md H4 hmd0 ((p1.trans e3).trans e4) (e4 _ _ (e3 _ _ m1))
end
end K87W
/-! story.py -/
namespace K87W
open PySem PySem.Spec PyProof.Rows L2 Evl K87X
open K87 (HStep)
def StepAt (H : Hp) (a : Addr) : HStep → Prop
  | .hue t c => H a = some (.tup [.str (Str.ofString "hue"), .int (t : Nat), .int (c : Nat)])
  | .row p x y => H a = some (.tup [.str (Str.ofString "row"), .int (p : Nat), .int (x : Nat), .int (y : Nat)])
theorem StepAt.ex {H H' : Hp} {a : Addr} (e : TEx H H') : ∀ {s : HStep}, StepAt H a s → StepAt H' a s
  | .hue _ _, h => e _ _ h
  | .row _ _ _, h => e _ _ h
structure StepsAt (H : Hp) (as : List Addr) (l : List HStep) : Prop where
  len : as.length = l.length
  at_ : ∀ (i : Nat) (a : Addr) (s : HStep), as[i]? = some a → l[i]? = some s → StepAt H a s
theorem StepsAt.ex {H H' : Hp} {as : List Addr} {l : List HStep} (S : StepsAt H as l) (e : TEx H H') : StepsAt H' as l := ⟨S.len, fun i a s h1 h2 => (S.at_ i a s h1 h2).ex e⟩
theorem StepsAt.snoc {H : Hp} {as : List Addr} {l : List HStep} {a : Addr} {s : HStep} (S : StepsAt H as l) (h : StepAt H a s) : StepsAt H (as ++ [a]) (l ++ [s]) := by
  refine ⟨by rw [List.length_append, List.length_append, S.len]; rfl, fun i b t hb ht => ?_⟩
  have hl := S.len
  by_cases hi : i < as.length
  · rw [List.getElem?_append_left hi] at hb
    rw [List.getElem?_append_left (by omega)] at ht
    exact S.at_ i b t hb ht
  · rw [List.getElem?_append_right (by omega)] at hb
    rw [List.getElem?_append_right (by omega)] at ht
    have h0 : i - as.length = 0 := by
      by_cases h0 : i - as.length = 0
      · exact h0
      · rw [List.getElem?_eq_none (by simp; omega)] at hb
        cases hb
    rw [h0] at hb
    rw [show i - l.length = 0 by omega] at ht
    cases hb
    cases ht
    exact h
section
variable {K : PySem.W.Frag} {σ : L2.St} {H H' : Hp} {x y z u : V} {D : Ends}
theorem g_quad {p : Addr} {a b c d : Nat} {Q : L2.St → Hp → Prop} (h : H p = some (.tup [x, y, z, u])) (k : Q ((((σ.set a (some x)).set b (some y)).set c (some z)).set d (some u)) H) : gTup K 4 (gCons (gName a) (gCons (gName b) (gCons (gName c) (gCons (gName d) gNil)))) (.ref p) σ H Q :=
  ⟨p, [x, y, z, u], rfl, st_of h, rfl, x, [y, z, u], rfl, y, [z, u], rfl, z, [u], rfl, u, [], rfl, rfl, k⟩
end
section
variable {P : Program} {w : World} {K : PySem.W.Frag} {mg : Str → Option Value} {base : Heap}
abbrev s_look_so : Stmt := topS 53
abbrev n_look_so : List Str := ["is_so"]
theorem sc_look_so : FnScope n_look_so ["is_so"] (defScope s_look_so) := ⟨rfl, rfl, rfl, by decide +kernel, rfl, by decide +kernel, by decide +kernel⟩
def sp_look_so : Sp := fun vs H Q _ => vs = [.bl true] ∧ RetV .non H Q
theorem sv_look_so {H : Hp} : SpV sp_look_so [.bl true] H .non := fun H1 _ Q q _ => ⟨rfl, fun H2 e2 => q H2 e2⟩
theorem ok_look_so (D : DefAt K mg "look_so" s_look_so ["is_so"]) : At P w K mg base 1 "look_so" ["is_so"] sp_look_so := D.at fun f fd F => by
  refine F.ok sc_look_so (fun vs H Q E h => ?_) (fun cdv A outer s H vs Q E hr h => ?_)
  · obtain ⟨rfl, _⟩ := h
    rfl
  · obtain ⟨rfl, k⟩ := h
    refine ⟨_, (pss_one (ps_if (pt_not (pt_val (pv 0))) pss_never pss_nil)), ?_⟩
    exact s_when (b := false) (et_not (a := true) (et_B (ev_var rfl))) (fun z => nomatch z) fun _ H1 e1 => k H1 e1
abbrev s_is_tie : Stmt := topS 54
abbrev n_is_tie : List Str := ["web", "tie"]
theorem sc_is_tie : FnScope n_is_tie ["web", "tie"] (defScope s_is_tie) := ⟨rfl, rfl, rfl, by decide +kernel, rfl, by decide +kernel, by decide +kernel⟩
def sp_is_tie : Sp := fun vs H Q _ => ∃ (a : Addr) (n t : Nat) (E : List K87.Tie), vs = [.ref a, .int t] ∧ Web H a n E ∧ t < E.length ∧ RetV (.bl true) H Q
theorem sv_is_tie {H : Hp} {a : Addr} {n t : Nat} {E : List K87.Tie} (W : Web H a n E) (ht : t < E.length) : SpV sp_is_tie [.ref a, .int t] H (.bl true) := fun H1 e Q q _ => ⟨a, n, t, E, rfl, W.ex e, ht, fun H2 e2 => q H2 e2⟩
theorem ok_is_tie (D : DefAt K mg "is_tie" s_is_tie ["web", "tie"]) (T : Txt mg) : At P w K mg base 1 "is_tie" ["web", "tie"] sp_is_tie := D.at fun f fd F => by
  refine F.ok sc_is_tie (fun vs H Q E h => ?_) (fun cdv A outer s H vs Q E hr h => ?_)
  · obtain ⟨a, n, t, E, rfl, _⟩ := h
    rfl
  · obtain ⟨a, n, t, E, rfl, W, ht, k⟩ := h
    obtain ⟨b, ts, C⟩ := W.at_
    refine ⟨_, (pss_one (ps_ret (pe_chain op_le op_lt pe_int (pv 1) (pe_callB call_len_seq (by rfl) T.len PySem.boot_len (pa_cons (pe_ix ix_tup (pv 0) pe_int (fun _ _ => rfl)) pa_nil))))), ?_⟩
    exact s_ret (ev_chain (a := true) (b := true) ev_c (ev_var rfl) (by rw [← decide_eq_true (show (0 : Int) ≤ (t : Int) by omega)]; exact rv_I0) fun _ => ⟨_, ev_m C (ev_var rfl), by rw [← decide_eq_true (show (t : Int) < (E.length : Int) by omega)]; exact rv_I0⟩) fun H1 e1 => k H1 e1
abbrev s_with_hue : Stmt := topS 55
abbrev n_with_hue : List Str := ["web", "hueing", "step", "word", "tie", "hue", "made"]
theorem sc_with_hue : FnScope n_with_hue ["web", "hueing", "step"] (defScope s_with_hue) := ⟨rfl, rfl, rfl, by decide +kernel, rfl, by decide +kernel, by decide +kernel⟩
def sp_with_hue : Sp := fun vs H Q _ => ∃ (a hl st : Addr) (n t c : Nat) (E : List K87.Tie) (h : K87.Hue), vs = [.ref a, .ref hl, .ref st] ∧ Web H a n E ∧ H hl = some (.lst (optL E.length h)) ∧ StepAt H st (.hue t c) ∧ t < E.length ∧ h t = none ∧ RetL (optL E.length (K87.setf h t (some c))) H Q
theorem ok_with_hue (D : DefAt K mg "with_hue" s_with_hue ["web", "hueing", "step"]) (T : Txt mg) (A_look_so : At P w K mg base 1 "look_so" ["is_so"] sp_look_so) (A_is_tie : At P w K mg base 1 "is_tie" ["web", "tie"] sp_is_tie) : At P w K mg base 2 "with_hue" ["web", "hueing", "step"] sp_with_hue := D.at fun f fd F => by
  refine F.ok sc_with_hue (fun vs H Q E h => ?_) (fun cdv A outer s H vs Q E hr h => ?_)
  · obtain ⟨a, hl, st, n, t, c, E, hu, rfl, _⟩ := h
    rfl
  · obtain ⟨a, hl, st, n, t, c, E, hu, rfl, W, hh, hs, ht, hn, k⟩ := h
    refine ⟨_, (pss_cons (ps_asg (pv 2) (pg_tup rfl (pgs_cons (pg_name (i := 3) sc_with_hue.nd rfl (Or.inl rfl)) (pgs_cons (pg_name (i := 4) sc_with_hue.nd rfl (Or.inl rfl)) (pgs_cons (pg_name (i := 5) sc_with_hue.nd rfl (Or.inl rfl)) pgs_nil)))))
      (pss_cons (ps_expr (pe_at A_look_so (hr.mono (by decide)) (pa_cons (pe_and (pe_at A_is_tie (hr.mono (by decide)) (pa_cons (pv 0) (pa_cons (pv 4) pa_nil))) (pe_and (pe_cmpR op_isN (pe_ix ix_list (pv 1) (pv 4) (fun _ _ => rfl)) pe_non (nomark _)) (pe_one (pe_cmpR op_ge (pv 5) pe_int (nomark _))))) pa_nil)))
      (pss_cons (ps_set (i := 6) sc_with_hue.nd rfl (Or.inl rfl) (pe_callTy call_list_of (by rfl) T.list (by decide +kernel) (pa_cons (pv 1) pa_nil)))
      (pss_cons (ps_asg (pv 5) (pg_sub (pv 6) (pv 4) set_list))
      (pss_one (ps_ret (pv 6))))))), ?_⟩
    refine q_asgG (ev_var rfl) fun H1 e1 => g_trip (e1 _ _ hs) ?_
    refine q_drop (ev_call (ea_cons (ev_andV (a := true) (b := true) (ev_call (ea_cons (ev_var rfl) (ea_cons (ev_var rfl) ea_nil)) (sv_is_tie (W.ex e1) ht)) fun _ => ev_andV (a := true) (b := true) (ev_isN (ev_op (ev_var rfl) (ev_var rfl) (rv_ixL (sq_of (e1 _ _ hh)) (atI_nat (optL_get ht)))) (by rw [hn]; rfl)) fun _ => ev_is (ev_op (ev_var rfl) ev_c rv_I0) (congrArg V.bl (decide_eq_true (show (0 : Int) ≤ (c : Int) by omega)))) ea_nil) sv_look_so) fun H2 e2 => ?_
    refine q_asgL (el_list (ev_var rfl) (sq_of (e2 _ _ (e1 _ _ hh)))) fun md H3 hmd e3 h3 => ?_
    have hmd0 := fresh_back (e1.trans e2) hmd
    refine q_setL (j := t) h3 (ev_var rfl) (ev_var rfl) (ev_var rfl) (by rw [optL_len]; exact ht) fun H4 e4 => ?_
    rw [show V.int ((c : Nat) : Int) = oV (some c) from rfl, optL_set]
    exact s_ret (ev_var rfl) fun H5 e5 => k md H5 hmd0 ((Ex.mut (((e1.trans e2).trans e3).trans e4) hmd0).trans e5) (e5 _ _ upd_same)
abbrev s_row_turned : Stmt := topS 59
abbrev n_row_turned : List Str := ["web", "hueing", "step", "word", "place", "one", "other"]
theorem sc_row_turned : FnScope n_row_turned ["web", "hueing", "step"] (defScope s_row_turned) := ⟨rfl, rfl, rfl, by decide +kernel, rfl, by decide +kernel, by decide +kernel⟩
def sp_row_turned : Sp := fun vs H Q _ => ∃ (a hl st : Addr) (n p x y : Nat) (E : List K87.Tie) (s : Nat → Bool) (h : K87.Hue), vs = [.ref a, .ref hl, .ref st] ∧ Web H a n E ∧ K87.Two E s ∧ H hl = some (.lst (optL E.length h)) ∧ StepAt H st (.row p x y) ∧ K87.StepOk n E h (.row p x y) ∧ RetL (optL E.length (K87.stepTo n E h (.row p x y))) H Q
theorem ok_row_turned (D : DefAt K mg "row_turned" s_row_turned ["web", "hueing", "step"]) (T : Txt mg) (A_row_from : At P w K mg base 5 "row_from" ["web", "hueing", "place", "one", "other"] sp_row_from) (A_exchanged : At P w K mg base 4 "exchanged" ["web", "hueing", "ties", "one", "other"] sp_exchanged) : At P w K mg base 6 "row_turned" ["web", "hueing", "step"] sp_row_turned := D.at fun f fd F => by
  refine F.ok sc_row_turned (fun vs H Q E h => ?_) (fun cdv A outer s H vs Q E hr h => ?_)
  · obtain ⟨a, hl, st, n, p, x, y, E, sd, hu, rfl, _⟩ := h
    rfl
  · obtain ⟨a, hl, st, n, p, x, y, E, sd, hu, rfl, W, two, hh, hs, ⟨hp, hxy, pr, hno⟩, k⟩ := h
    refine ⟨_, (pss_cons (ps_asg (pv 2) (pg_tup rfl (pgs_cons (pg_name (i := 3) sc_row_turned.nd rfl (Or.inl rfl)) (pgs_cons (pg_name (i := 4) sc_row_turned.nd rfl (Or.inl rfl)) (pgs_cons (pg_name (i := 5) sc_row_turned.nd rfl (Or.inl rfl)) (pgs_cons (pg_name (i := 6) sc_row_turned.nd rfl (Or.inl rfl)) pgs_nil))))))
      (pss_one (ps_ret (pe_at A_exchanged (hr.mono (by decide)) (pa_cons (pv 0) (pa_cons (pv 1) (pa_cons (pe_at A_row_from (hr.mono (by decide)) (pa_cons (pv 0) (pa_cons (pv 1) (pa_cons (pv 4) (pa_cons (pv 5) (pa_cons (pv 6) pa_nil)))))) (pa_cons (pv 5) (pa_cons (pv 6) pa_nil))))))))), ?_⟩
    have R := K87.row_main W.ok two pr hxy hp hno
    refine q_asgG (ev_var rfl) fun H1 e1 => g_quad (e1 _ _ hs) ?_
    refine s_retL (xs := optL E.length (K87.swapF x y (K87.rowL E hu (2 * n) p x y) hu)) (el_callA (ys := natL (K87.rowL E hu (2 * n) p x y)) (args := fun q => [.ref a, .ref hl, .ref q, .int (x : Int), .int (y : Int)]) (fun H0 e0 Q q => ⟨.ref a, rfl, .ref hl, rfl, el_call (ea_cons (ev_var (v := .ref a) rfl) (ea_cons (ev_var (v := .ref hl) rfl) (ea_cons (ev_var (v := .int (p : Int)) rfl) (ea_cons (ev_var (v := .int (x : Int)) rfl) (ea_cons (ev_var (v := .int (y : Int)) rfl) ea_nil))))) (sl_row_from (W.ex (e1.trans e0)) (e0 _ _ (e1 _ _ hh)) hp hxy hno R.ends) H0 (Ex.refl _) _ fun r H2 _ e2 h2 => ⟨.int (x : Int), rfl, .int (y : Int), rfl, q r H2 e2 h2⟩⟩)
      fun r H2 e2 h2 => sl_exchanged ((W.ex e1).ex e2) (e2 _ _ (e1 _ _ hh)) h2 hxy R.of2 R.prop) fun q H2 hq e2 h2 => k.go e1 hq e2 h2
abbrev s_made_by : Stmt := topS 60
abbrev n_made_by : List Str := ["web", "hueing", "step"]
theorem sc_made_by : FnScope n_made_by ["web", "hueing", "step"] (defScope s_made_by) := ⟨rfl, rfl, rfl, by decide +kernel, rfl, by decide +kernel, by decide +kernel⟩
def sp_made_by : Sp := fun vs H Q _ => ∃ (a hl st : Addr) (n : Nat) (E : List K87.Tie) (s : Nat → Bool) (h : K87.Hue) (sp : HStep), vs = [.ref a, .ref hl, .ref st] ∧ Web H a n E ∧ K87.Two E s ∧ H hl = some (.lst (optL E.length h)) ∧ StepAt H st sp ∧ K87.StepOk n E h sp ∧ RetL (optL E.length (K87.stepTo n E h sp)) H Q
theorem sl_made_by {H : Hp} {a hl st : Addr} {n : Nat} {E : List K87.Tie} {s : Nat → Bool} {h : K87.Hue} {sp : HStep} (W : Web H a n E) (two : K87.Two E s) (hh : H hl = some (.lst (optL E.length h))) (hs : StepAt H st sp) (ok : K87.StepOk n E h sp) : SpL sp_made_by [.ref a, .ref hl, .ref st] H (optL E.length (K87.stepTo n E h sp)) := fun H1 e Q q _ => ⟨a, hl, st, n, E, s, h, sp, rfl, W.ex e, two, e _ _ hh, hs.ex (TEx.of e), ok, fun p H2 h1 h2 h3 => q p H2 h1 h2 h3⟩
theorem ok_made_by (D : DefAt K mg "made_by" s_made_by ["web", "hueing", "step"]) (T : Txt mg) (A_with_hue : At P w K mg base 2 "with_hue" ["web", "hueing", "step"] sp_with_hue) (A_row_turned : At P w K mg base 6 "row_turned" ["web", "hueing", "step"] sp_row_turned) : At P w K mg base 7 "made_by" ["web", "hueing", "step"] sp_made_by := D.at fun f fd F => by
  refine F.ok sc_made_by (fun vs H Q E h => ?_) (fun cdv A outer s H vs Q E hr h => ?_)
  · obtain ⟨a, hl, st, n, E, sd, hu, sp, rfl, _⟩ := h
    rfl
  · obtain ⟨a, hl, st, n, E, sd, hu, sp, rfl, W, two, hh, hs, ok, k⟩ := h
    obtain ⟨tt, h_HUE⟩ := T.HUE
    obtain ⟨tt', h_DROP⟩ := T.DROP
    obtain ⟨tt'', h_MOVE⟩ := T.MOVE
    refine ⟨_, (pss_cons (ps_if (pt_cmpR op_eq (pe_ix ix_tup (pv 2) pe_int (fun _ _ => rfl)) (pe_glob (v := .str (Str.ofString "hue")) rfl h_HUE ⟨_, rfl⟩) (nomark _)) (pss_one (ps_ret (pe_at A_with_hue (hr.mono (by decide)) (pa_cons (pv 0) (pa_cons (pv 1) (pa_cons (pv 2) pa_nil)))))) pss_nil)
      (pss_cons (ps_if (pt_cmpR op_eq (pe_ix ix_tup (pv 2) pe_int (fun _ _ => rfl)) (pe_glob (v := .str (Str.ofString "drop")) rfl h_DROP ⟨_, rfl⟩) (nomark _)) pss_never pss_nil)
      (pss_cons (ps_if (pt_cmpR op_eq (pe_ix ix_tup (pv 2) pe_int (fun _ _ => rfl)) (pe_glob (v := .str (Str.ofString "move")) rfl h_MOVE ⟨_, rfl⟩) (nomark _)) pss_never pss_nil)
      (pss_one (ps_ret (pe_at A_row_turned (hr.mono (by decide)) (pa_cons (pv 0) (pa_cons (pv 1) (pa_cons (pv 2) pa_nil))))))))), ?_⟩
    cases sp with
    | hue t c =>
      refine q_when (b := true) (et_test (ev_is (ev_op (ev_op (ev_var rfl) ev_c (rv_ixT (v := .str (Str.ofString "hue")) (st_of hs) rfl)) ev_c (rv_eq rfl)) (congrArg V.bl (by decide)))) (fun _ H1 e1 => ?_) (fun z => nomatch z)
      exact s_retL (el_call (ea_cons (ev_var rfl) (ea_cons (ev_var rfl) (ea_cons (ev_var rfl) ea_nil))) fun H2 e2 Q q _ => ⟨a, hl, st, n, t, c, E, hu, rfl, (W.ex e1).ex e2, e2 _ _ (e1 _ _ hh), e2 _ _ (e1 _ _ hs), ok.1, ok.2.1, fun p H3 g1 g2 g3 => q p H3 g1 g2 g3⟩) fun q H2 hq e2 h2 => k.go e1 hq e2 h2
    | row p x y =>
      refine q_when (b := false) (et_test (ev_is (ev_op (ev_op (ev_var rfl) ev_c (rv_ixT (v := .str (Str.ofString "row")) (st_of hs) rfl)) ev_c (rv_eq rfl)) (congrArg V.bl (by decide)))) (fun z => nomatch z) fun _ H1 e1 => ?_
      refine q_when (b := false) (et_test (ev_is (ev_op (ev_op (ev_var rfl) ev_c (rv_ixT (v := .str (Str.ofString "row")) (st_of (e1 _ _ hs)) rfl)) ev_c (rv_eq rfl)) (congrArg V.bl (by decide)))) (fun z => nomatch z) fun _ H2 e2 => ?_
      refine q_when (b := false) (et_test (ev_is (ev_op (ev_op (ev_var rfl) ev_c (rv_ixT (v := .str (Str.ofString "row")) (st_of (e2 _ _ (e1 _ _ hs))) rfl)) ev_c (rv_eq rfl)) (congrArg V.bl (by decide)))) (fun z => nomatch z) fun _ H3 e3 => ?_
      have ex3 := (e1.trans e2).trans e3
      exact s_retL (el_call (ea_cons (ev_var rfl) (ea_cons (ev_var rfl) (ea_cons (ev_var rfl) ea_nil))) fun H4 e4 Q q _ => ⟨a, hl, st, n, p, x, y, E, sd, hu, rfl, (W.ex ex3).ex e4, two, e4 _ _ (ex3 _ _ hh), e4 _ _ (ex3 _ _ hs), ok, fun p H3 g1 g2 g3 => q p H3 g1 g2 g3⟩) fun q H4 hq e4 h4 => k.go ex3 hq e4 h4
abbrev s_done_step : Stmt := topS 61
abbrev n_done_step : List Str := ["web", "hueing", "step", "made"]
theorem sc_done_step : FnScope n_done_step ["web", "hueing", "step"] (defScope s_done_step) := ⟨rfl, rfl, rfl, by decide +kernel, rfl, by decide +kernel, by decide +kernel⟩
def sp_done_step : Sp := fun vs H Q _ => ∃ (a hl st : Addr) (n : Nat) (E : List K87.Tie) (s : Nat → Bool) (h : K87.Hue) (sp : HStep), vs = [.ref a, .ref hl, .ref st] ∧ Web H a n E ∧ K87.Two E s ∧ H hl = some (.lst (optL E.length h)) ∧ StepAt H st sp ∧ K87.StepOk n E h sp ∧ RetL (optL E.length (K87.stepTo n E h sp)) H Q
theorem sl_done_step {H : Hp} {a hl st : Addr} {n : Nat} {E : List K87.Tie} {s : Nat → Bool} {h : K87.Hue} {sp : HStep} (W : Web H a n E) (two : K87.Two E s) (hh : H hl = some (.lst (optL E.length h))) (hs : StepAt H st sp) (ok : K87.StepOk n E h sp) : SpL sp_done_step [.ref a, .ref hl, .ref st] H (optL E.length (K87.stepTo n E h sp)) := fun H1 e Q q _ => ⟨a, hl, st, n, E, s, h, sp, rfl, W.ex e, two, e _ _ hh, hs.ex (TEx.of e), ok, fun p H2 h1 h2 h3 => q p H2 h1 h2 h3⟩
theorem ok_done_step (D : DefAt K mg "done_step" s_done_step ["web", "hueing", "step"]) (T : Txt mg) (A_made_by : At P w K mg base 7 "made_by" ["web", "hueing", "step"] sp_made_by) (A_look_so : At P w K mg base 1 "look_so" ["is_so"] sp_look_so) (A_is_hueing : At P w K mg base 3 "is_hueing" ["web", "thing"] sp_is_hueing) : At P w K mg base 8 "done_step" ["web", "hueing", "step"] sp_done_step := D.at fun f fd F => by
  refine F.ok sc_done_step (fun vs H Q E h => ?_) (fun cdv A outer s H vs Q E hr h => ?_)
  · obtain ⟨a, hl, st, n, E, sd, hu, sp, rfl, _⟩ := h
    rfl
  · obtain ⟨a, hl, st, n, E, sd, hu, sp, rfl, W, two, hh, hs, ok, k⟩ := h
    refine ⟨_, (pss_cons (ps_try_calm (pss_one (ps_set (i := 3) sc_done_step.nd rfl (Or.inl rfl) (pe_at A_made_by (hr.mono (by decide)) (pa_cons (pv 0) (pa_cons (pv 1) (pa_cons (pv 2) pa_nil)))))))
      (pss_cons (ps_expr (pe_at A_look_so (hr.mono (by decide)) (pa_cons (pe_at A_is_hueing (hr.mono (by decide)) (pa_cons (pv 0) (pa_cons (pv 3) pa_nil))) pa_nil)))
      (pss_one (ps_ret (pv 3))))), ?_⟩
    refine q_asgL (el_call (ea_cons (ev_var rfl) (ea_cons (ev_var rfl) (ea_cons (ev_var rfl) ea_nil))) (sl_made_by W two hh hs ok)) fun md H1 hmd e1 h1 => ?_
    refine q_drop (ev_call (ea_cons (ev_call (ea_cons (ev_var rfl) (ea_cons (ev_var rfl) ea_nil)) (sv_is_hueing (W.ex e1) h1 (ok.proper W.ok two))) ea_nil) sv_look_so) fun H2 e2 => ?_
    exact s_ret (ev_var rfl) fun H3 e3 => k md H3 hmd ((e1.trans e2).trans e3) (e3 _ _ (e2 _ _ h1))
abbrev s_played : Stmt := topS 62
abbrev n_played : List Str := ["web", "hueing", "steps", "found", "here", "place", "step"]
theorem sc_played : FnScope n_played ["web", "hueing", "steps"] (defScope s_played) := ⟨rfl, rfl, rfl, by decide +kernel, rfl, by decide +kernel, by decide +kernel⟩
def PlayedV (n : Nat) (E : List K87.Tie) (h : K87.Hue) (l : List HStep) : V → Hp → Prop := fun v H' => ∃ (r : Addr) (as : List Addr), v = .ref r ∧ H' r = some (.lst (as.map V.ref)) ∧ as.length = l.length ∧ ∀ (i : Nat) (q : Addr), as[i]? = some q → H' q = some (.lst (optL E.length (K87.runTo n E h (l.take (i + 1)))))
def sp_played : Sp := fun vs H Q _ => ∃ (a hl sl : Addr) (n : Nat) (E : List K87.Tie) (s : Nat → Bool) (h : K87.Hue) (as : List Addr) (l : List HStep), vs = [.ref a, .ref hl, .ref sl] ∧ Web H a n E ∧ K87.Two E s ∧ H hl = some (.lst (optL E.length h)) ∧ H sl = some (.lst (as.map V.ref)) ∧ StepsAt H as l ∧ K87.RunOk n E h l ∧ l.length ≤ 1000 ∧ RetP (PlayedV n E h l) H Q
theorem ok_played (D : DefAt K mg "played" s_played ["web", "hueing", "steps"]) (T : Txt mg) (A_done_step : At P w K mg base 8 "done_step" ["web", "hueing", "step"] sp_done_step) : At P w K mg base 9 "played" ["web", "hueing", "steps"] sp_played := D.at fun f fd F => by
  refine F.ok sc_played (fun vs H Q E h => ?_) (fun cdv A outer s H vs Q E hr h => ?_)
  · obtain ⟨a, hl, sl, n, E, sd, hu, as, l, rfl, _⟩ := h
    rfl
  · obtain ⟨a, hl, sl, n, E, sd, hu, as, l, rfl, W, two, hh, hsl, SA, run, hlen, k⟩ := h
    refine ⟨_, (pss_cons (ps_set (i := 3) sc_played.nd rfl (Or.inl rfl) (pe_lst pa_nil))
      (pss_cons (ps_set (i := 4) sc_played.nd rfl (Or.inl rfl) (pv 1))
      (pss_cons (ps_for PassesOwn.never rfl (pi_enum (by rfl) T.enumerate (pa_cons (pv 2) pa_nil)) (pg_tup rfl (pgs_cons (pg_name (i := 5) sc_played.nd rfl (Or.inl rfl)) (pgs_cons (pg_name (i := 6) sc_played.nd rfl (Or.inl rfl)) pgs_nil))) (pss_cons (ps_try_calm (pss_one (ps_set (i := 4) sc_played.nd rfl (Or.inl rfl) (pe_at A_done_step (hr.mono (by decide)) (pa_cons (pv 0) (pa_cons (pv 4) (pa_cons (pv 6) pa_nil)))))))
      (pss_one (ps_expr (pe_bm PySem.F.plainAttrs_list PySem.F.slot_list_append PySem.F.type_list_append mt_append (pv 3) (pa_cons (pv 4) pa_nil))))))
      (pss_one (ps_ret (pv 3)))))), ?_⟩
    refine q_asgL (el_lst ea_nil (show 0 ≤ 100000 by decide)) fun fo H1 hfo e1 h1 => ?_
    refine q_asg (ev_var (v := .ref hl) rfl) fun H2 e2 => ?_
    have ex2 := e1.trans e2
    have al := SA.len
    refine q_forEL (ea_cons (ev_var rfl) ea_nil) (ex2 _ _ hsl) (fun i σ' H' => ∃ (rs : List Addr) (he : Addr) (x5 x6 : Option V), Ex H H' ∧ H' fo = some (.lst (rs.map V.ref)) ∧ rs.length = i ∧ (∀ (j : Nat) (q : Addr), rs[j]? = some q → H' q = some (.lst (optL E.length (K87.runTo n E hu (l.take (j + 1))))) ∧ q ≠ fo) ∧ H' he = some (.lst (optL E.length (K87.runTo n E hu (l.take i)))) ∧ he ≠ fo ∧ σ' = [some (.ref a), some (.ref hl), some (.ref sl), some (.ref fo), some (.ref he), x5, x6])
      (fun H3 e3 => ⟨[], hl, _, _, ex2.trans e3, e3 _ _ (e2 _ _ h1), rfl, fun j q z => by simp at z, e3 _ _ (ex2 _ _ hh), ne_of_none hh hfo, rfl⟩) (fun i σ' H' _ p => by obtain ⟨_, _, _, _, p1, _⟩ := p; exact p1 _ _ hsl) (fun i x T σ' H' hx p hT => ?_) fun σ' H' p => ?_
    · obtain ⟨rs, he, x5, x6, p1, f1, rl, hr1, hhe, nhe, rfl⟩ := p
      have hi : i < as.length := by rw [← List.length_map (f := V.ref)]; exact (List.getElem?_eq_some_iff.mp hx).1
      obtain ⟨q, hq⟩ : ∃ q, as[i]? = some q := ⟨_, List.getElem?_eq_getElem hi⟩
      rw [List.getElem?_map, hq] at hx
      cases hx
      obtain ⟨sp, hsp⟩ : ∃ sp, l[i]? = some sp := ⟨l[i], List.getElem?_eq_getElem (by omega)⟩
      have sat := SA.at_ i q sp hq hsp
      refine g_pair upd_same ?_
      have e0 := Ex.new (o := .tup [.int (i : Int), .ref q]) hT
      have p0 := p1.trans e0
      have f0 := e0 _ _ f1
      have he0 := e0 _ _ hhe
      have hr0 : ∀ (j : Nat) (q : Addr), rs[j]? = some q → (upd H' T (.tup [.int (i : Int), .ref q])) q = some (.lst (optL E.length (K87.runTo n E hu (l.take (j + 1))))) → True := fun _ _ _ _ => trivial
      have hrs : ∀ (j : Nat) (u : Addr), rs[j]? = some u → (upd H' T (.tup [.int (i : Int), .ref q])) u = some (.lst (optL E.length (K87.runTo n E hu (l.take (j + 1))))) ∧ u ≠ fo := fun j u hu => ⟨e0 _ _ (hr1 j u hu).1, (hr1 j u hu).2⟩
      clear hr0
      generalize upd H' T (.tup [.int (i : Int), .ref q]) = G0 at e0 p0 f0 he0 hrs ⊢
      refine q_asgL (el_call (ea_cons (ev_var rfl) (ea_cons (ev_var rfl) (ea_cons (ev_var rfl) ea_nil))) (sl_done_step (W.ex p0) two he0 (sat.ex (TEx.of p0)) (run.at hsp))) fun md H3 hmd e3 h3 => ?_
      rw [← K87.runTo_take hsp] at h3
      have nmf : md ≠ fo := Ne.symm (ne_of_none f0 hmd)
      refine s_app (e3 _ _ f0) (ev_var rfl) (ev_var rfl) (by rw [List.length_map]; omega) fun H4 e4 => ?_
      refine ⟨rs ++ [md], md, _, _, Ex.mut ((p0.trans e3).trans e4) hfo, by rw [upd_same, List.map_append]; rfl, by rw [List.length_append, rl]; rfl, fun j u hu => ?_, by rw [upd_ne nmf]; exact e4 _ _ h3, nmf, rfl⟩
      by_cases hj : j < rs.length
      · rw [List.getElem?_append_left hj] at hu
        obtain ⟨g1, g2⟩ := hrs j u hu
        exact ⟨by rw [upd_ne g2]; exact e4 _ _ (e3 _ _ g1), g2⟩
      · rw [List.getElem?_append_right (by omega)] at hu
        have h0 : j - rs.length = 0 := by
          by_cases h0 : j - rs.length = 0
          · exact h0
          · rw [List.getElem?_eq_none (by simp; omega)] at hu
            cases hu
        rw [h0] at hu
        cases hu
        rw [show j = i by omega]
        exact ⟨by rw [upd_ne nmf]; exact e4 _ _ h3, nmf⟩
    · obtain ⟨rs, he, x5, x6, p1, f1, rl, hr1, hhe, nhe, rfl⟩ := p
      rw [List.length_map] at rl
      exact s_ret (ev_var rfl) fun H3 e3 => k _ H3 (p1.trans e3) ⟨fo, rs, rfl, e3 _ _ f1, by omega, fun i q hq => e3 _ _ (hr1 i q hq).1⟩
end
end K87W
/-! twosided.py: steps_for, by_rows -/
namespace K87W
open PySem PySem.Spec PyProof.Rows L2 Evl K87X
open K87 (HStep)
section
variable {K : PySem.W.Frag} {σ : L2.St} {H H' : Hp} {ta tb te tl : TE} {x y z u : V} {D : Ends} {P : V → Hp → Prop} {xs ys : List V} {g : TG} {tu tz : TS}
theorem ep_lst1 (h : EvU te σ H xs) : EvP (tLst (tCons te tNil)) σ H fun v H' => ∃ r q, v = .ref r ∧ H' r = some (.lst [.ref q]) ∧ H' q = some (.tup xs) ∧ H r = none := fun H1 e Q k =>
  h H1 e _ fun q H2 hq e2 h2 => ⟨show 1 ≤ sizeLine by decide, fun r hr => k _ _ (e2.trans (Ex.new hr)) ⟨r, q, rfl, upd_same, Ex.new hr _ _ h2, fresh_back (e.trans e2) hr⟩⟩
theorem ep_lst2 (h : EvU ta σ H xs) (h' : EvU tb σ H ys) : EvP (tLst (tCons ta (tCons tb tNil))) σ H fun v H' => ∃ r q q', v = .ref r ∧ H' r = some (.lst [.ref q, .ref q']) ∧ H' q = some (.tup xs) ∧ H' q' = some (.tup ys) ∧ H r = none := fun H1 e Q k =>
  h H1 e _ fun q H2 hq e2 h2 => h' H2 (e.trans e2) _ fun q' H3 hq' e3 h3 => ⟨show 2 ≤ sizeLine by decide, fun r hr => k _ _ ((e2.trans e3).trans (Ex.new hr)) ⟨r, q, q', rfl, upd_same, Ex.new hr _ _ (e3 _ _ h2), Ex.new hr _ _ h3, fresh_back ((e.trans e2).trans e3) hr⟩⟩
/-- a loop over what a call answers -/
theorem s_forP (h : EvP tl σ H P) (k : ∀ v H1, Ex H H1 → P v H1 → tFor (iList K (tC v)) g tu D σ H1) : tFor (iList K tl) g tu D σ H := h.go k
theorem q_forP (h : EvP tl σ H P) (k : ∀ v H1, Ex H H1 → P v H1 → tSeq (tFor (iList K (tC v)) g tu) tz D σ H1) : tSeq (tFor (iList K tl) g tu) tz D σ H := h.go k
end
theorem stepsFor_len (E : List K87.Tie) (h : K87.Hue) (t k : Nat) : (K87.stepsFor E h t k).length ≤ 2 := by
  unfold K87.stepsFor
  split
  · show 1 ≤ 2; omega
  · show 2 ≤ 2; omega
section
variable {P : Program} {w : World} {K : PySem.W.Frag} {mg : Str → Option Value} {base : Heap}
abbrev s_steps_for : Stmt := topS 64
abbrev n_steps_for : List Str := ["web", "hueing", "tie", "hues", "one", "other", "near", "far", "both", "hue"]
theorem sc_steps_for : FnScope n_steps_for ["web", "hueing", "tie", "hues"] (defScope s_steps_for) := ⟨rfl, rfl, rfl, by decide +kernel, rfl, by decide +kernel, by decide +kernel⟩
def StepsV (H0 : Hp) (l : List HStep) : V → Hp → Prop := fun v H' => ∃ (r : Addr) (as : List Addr), v = .ref r ∧ H0 r = none ∧ H' r = some (.lst (as.map V.ref)) ∧ StepsAt H' as l
def sp_steps_for : Sp := fun vs H Q _ => ∃ (a hl : Addr) (n t k : Nat) (E : List K87.Tie) (h : K87.Hue), vs = [.ref a, .ref hl, .int t, .int k] ∧ Web H a n E ∧ H hl = some (.lst (optL E.length h)) ∧ t < E.length ∧ h t = none ∧ (∀ p, p < n → K87.deg E p ≤ k) ∧ k ≤ 1000 ∧ RetP (StepsV H (K87.stepsFor E h t k)) H Q
theorem ok_steps_for (D : DefAt K mg "steps_for" s_steps_for ["web", "hueing", "tie", "hues"]) (T : Txt mg) (A_free_at : At P w K mg base 5 "free_at" ["web", "hueing", "place", "hues"] sp_free_at) : At P w K mg base 6 "steps_for" ["web", "hueing", "tie", "hues"] sp_steps_for := D.at fun f fd F => by
  refine F.ok sc_steps_for (fun vs H Q E h => ?_) (fun cdv A outer s H vs Q E hr h => ?_)
  · obtain ⟨a, hl, n, t, m, E, hu, rfl, _⟩ := h
    rfl
  · obtain ⟨a, hl, n, t, m, E, hu, rfl, W, hh, ht, hn, hd, hm, k⟩ := h
    refine ⟨_, (pss_cons (ps_asg (pe_ix ix_tup (pe_ix ix_tup (pv 0) pe_int (fun _ _ => rfl)) (pv 2) (fun _ _ => rfl)) (pg_tup rfl (pgs_cons (pg_name (i := 4) sc_steps_for.nd rfl (Or.inl rfl)) (pgs_cons (pg_name (i := 5) sc_steps_for.nd rfl (Or.inl rfl)) pgs_nil))))
      (pss_cons (ps_set (i := 6) sc_steps_for.nd rfl (Or.inl rfl) (pe_at A_free_at (hr.mono (by decide)) (pa_cons (pv 0) (pa_cons (pv 1) (pa_cons (pv 4) (pa_cons (pv 3) pa_nil))))))
      (pss_cons (ps_set (i := 7) sc_steps_for.nd rfl (Or.inr rfl) (pe_at A_free_at (hr.mono (by decide)) (pa_cons (pv 0) (pa_cons (pv 1) (pa_cons (pv 5) (pa_cons (pv 3) pa_nil))))))
      (pss_cons (ps_setLc (i := 8) (own := [("hue", 9)]) rfl sc_steps_for.nd rfl rfl (sw_true rfl rfl rfl (by decide +kernel)) (pi_list (pv 6)) (blkOk_by (own := [("hue", 9)]) (N := n_steps_for) (sc := defScope s_steps_for) (by decide +kernel)) (fun _ _ _ _ _ => (pg_name (i := 9) sc_steps_for.nd rfl (Or.inl rfl))) (fun _ _ _ _ _ => pts_one (pt_cmpR (r := rIn K false) op_in_seq (pv 9) (pv 7) (by rfl))) (fun _ _ _ _ _ => (pv 9)))
      (pss_cons (ps_if (pt_cmpR op_gt (pe_callB call_len_seq (by rfl) T.len PySem.boot_len (pa_cons (pv 8) pa_nil)) pe_int (nomark _)) (pss_one (ps_ret (pe_lst (pa_cons (pe_tup (pa_cons pe_str (pa_cons (pv 2) (pa_cons (pe_ix ix_list (pv 8) pe_int (fun _ _ => rfl)) pa_nil)))) pa_nil)))) pss_nil)
      (pss_one (ps_ret (pe_lst (pa_cons (pe_tup (pa_cons pe_str (pa_cons (pv 5) (pa_cons (pe_ix ix_list (pv 6) pe_int (fun _ _ => rfl)) (pa_cons (pe_ix ix_list (pv 7) pe_int (fun _ _ => rfl)) pa_nil))))) (pa_cons (pe_tup (pa_cons pe_str (pa_cons (pv 2) (pa_cons (pe_ix ix_list (pv 6) pe_int (fun _ _ => rfl)) pa_nil)))) pa_nil)))))))))), ?_⟩
    have hln := W.ln
    obtain ⟨b, as, CW⟩ := W.at_
    obtain ⟨q, z1, z2, z3⟩ := CW.tie_at ht
    have ho := W.ok _ (K87.tieN_mem ht)
    refine q_asgG (ev_tie CW (ev_var rfl) (ev_var rfl) z1) fun H1 e1 => g_pair (e1 _ _ z3) ?_
    refine q_asgL (el_call (ea_cons (ev_var rfl) (ea_cons (ev_var rfl) (ea_cons (ev_var rfl) (ea_cons (ev_var rfl) ea_nil)))) (sl_free_at (W.ex e1) (e1 _ _ hh) (show (K87.tieN E t).1 < n by omega) hm)) fun na H2 hna e2 h2 => ?_
    have ex2 := e1.trans e2
    refine q_asgL (el_call (ea_cons (ev_var rfl) (ea_cons (ev_var rfl) (ea_cons (ev_var rfl) (ea_cons (ev_var rfl) ea_nil)))) (sl_free_at (W.ex ex2) (ex2 _ _ hh) ho.2 hm)) fun fa H3 hfa e3 h3 => ?_
    have ex3 := ex2.trans e3
    have hA := K87.free_some (hd _ (show (K87.tieN E t).1 < n by omega)) ht (K87.touch_iff.mpr (.inl rfl)) hn
    have hB := K87.free_some (hd _ ho.2) ht (K87.touch_iff.mpr (.inr rfl)) hn
    have hAl : (K87.freeL E hu (K87.tieN E t).1 m).length ≤ m := by
      unfold K87.freeL
      have := List.length_filter_le (fun c => !K87.usedAt E hu (K87.tieN E t).1 c) (List.range m)
      rw [List.length_range] at this
      exact this
    have hst : K87.stepsFor E hu t m = match (K87.freeL E hu (K87.tieN E t).1 m).filter fun c => decide (c ∈ K87.freeL E hu (K87.tieN E t).2 m) with
      | c :: _ => [.hue t c]
      | [] => [.row (K87.tieN E t).2 ((K87.freeL E hu (K87.tieN E t).1 m).getD 0 0) ((K87.freeL E hu (K87.tieN E t).2 m).getD 0 0), .hue t ((K87.freeL E hu (K87.tieN E t).1 m).getD 0 0)] := rfl
    rw [hst] at k
    generalize K87.freeL E hu (K87.tieN E t).1 m = LA at h2 h3 hA hAl k ⊢
    generalize K87.freeL E hu (K87.tieN E t).2 m = LB at h3 hB k ⊢
    have h2' := e3 _ _ h2
    refine q_asgL (xs := natL (LA.filter fun c => decide (c ∈ LB))) (el_lcN (fun c => decide (c ∈ LB)) (fun (c : Nat) => .int (c : Int)) (ev_var rfl) h2' (by omega) (fun _ => rfl) (fun c H4 e4 hc => et_test (ev_is (ev_op (ev_var rfl) (ev_var rfl) (rv_isL (sq_of (e4 _ _ h3)) rfl (natL_flat _))) (congrArg V.bl (inV_natL _ _)))) (fun c H4 e4 hc _ => ev_var rfl)) fun bo H4 hbo e4 h4 => ?_
    have ex4 := ex3.trans e4
    cases hbl : LA.filter fun c => decide (c ∈ LB) with
    | cons c r =>
      rw [hbl] at h4 k
      refine q_when (b := true) (et_is (ev_len0 (ev_var rfl) h4) (by rw [natL_len]; exact decide_eq_true (Nat.succ_pos _))) (fun _ H5 e5 => ?_) (fun z => nomatch z)
      refine s_retP (ep_lst1 (eu_tup3 ev_c (ev_var (v := .int (t : Int)) rfl) (ev_op (z := .int (c : Int)) (ev_var rfl) ev_c (rv_ixL (sq_of (e5 _ _ h4)) (atI_nat (j := 0) rfl))))) fun v H6 e6 hv => ?_
      obtain ⟨r', q', rfl, g1, g2, g3⟩ := hv
      exact k _ H6 ((ex4.trans e5).trans e6) ⟨r', [q'], rfl, fresh_back (ex4.trans e5) g3, g1, StepsAt.snoc (as := []) (l := []) ⟨rfl, fun i a s z => by simp at z⟩ g2⟩
    | nil =>
      rw [hbl] at h4 k
      refine q_when (b := false) (et_is (ev_len0 (ev_var rfl) h4) rfl) (fun z => nomatch z) fun _ H5 e5 => ?_
      have a0 : (natL LA)[0]? = some (.int ((LA.getD 0 0 : Nat) : Int)) := natL_get (List.length_pos_iff.mpr hA)
      have b0 : (natL LB)[0]? = some (.int ((LB.getD 0 0 : Nat) : Int)) := natL_get (List.length_pos_iff.mpr hB)
      have h2a := e5 _ _ (e4 _ _ h2')
      have h3a := e5 _ _ (e4 _ _ h3)
      refine s_retP (ep_lst2 (xs := [.str (Str.ofString "row"), .int ((K87.tieN E t).2 : Nat), .int ((LA.getD 0 0 : Nat) : Int), .int ((LB.getD 0 0 : Nat) : Int)]) (eu_tup (ea_cons ev_c (ea_cons (ev_var rfl) (ea_cons (ev_op (ev_var rfl) ev_c (rv_ixL (sq_of h2a) (atI_nat (j := 0) a0))) (ea_cons (ev_op (ev_var rfl) ev_c (rv_ixL (sq_of h3a) (atI_nat (j := 0) b0))) ea_nil)))) (show 4 ≤ 100000 by decide))
        (eu_tup3 ev_c (ev_var (v := .int (t : Int)) rfl) (ev_op (ev_var rfl) ev_c (rv_ixL (sq_of h2a) (atI_nat (j := 0) a0))))) fun v H6 e6 hv => ?_
      obtain ⟨r', q', q'', rfl, g1, g2, g3, g4⟩ := hv
      exact k _ H6 ((ex4.trans e5).trans e6) ⟨r', [q', q''], rfl, fresh_back (ex4.trans e5) g4, g1, StepsAt.snoc (as := [q']) (l := [.row (K87.tieN E t).2 (LA.getD 0 0) (LB.getD 0 0)]) (StepsAt.snoc (as := []) (l := []) ⟨rfl, fun i a s z => by simp at z⟩ g2) g3⟩
abbrev s_by_rows : Stmt := topS 65
abbrev n_by_rows : List Str := ["web", "hues", "hueing", "steps", "tie", "step"]
theorem sc_by_rows : FnScope n_by_rows ["web"] (defScope s_by_rows) := ⟨rfl, rfl, rfl, by decide +kernel, rfl, by decide +kernel, by decide +kernel⟩
def h0 : K87.Hue := fun _ => none
def RowsV (n : Nat) (E : List K87.Tie) : V → Hp → Prop := fun v H' => ∃ (q hl sl : Addr) (as : List Addr) (l : List HStep), v = .ref q ∧ H' q = some (.tup [.ref hl, .ref sl]) ∧ H' hl = some (.lst (optL E.length (K87.runTo n E h0 l))) ∧ H' sl = some (.lst (as.map V.ref)) ∧ StepsAt H' as l ∧ K87.RunOk n E h0 l ∧ K87.Proper E (K87.runTo n E h0 l) ∧ (∀ t, t < E.length → K87.runTo n E h0 l t ≠ none) ∧ l.length ≤ 1000
def sp_by_rows : Sp := fun vs H Q _ => ∃ (a : Addr) (n : Nat) (E : List K87.Tie), vs = [.ref a] ∧ Web H a n E ∧ (∃ s, K87.Two E s) ∧ RetP (RowsV n E) H Q
theorem ok_by_rows (D : DefAt K mg "by_rows" s_by_rows ["web"]) (T : Txt mg) (A_sides_of : At P w K mg base 5 "sides_of" ["web"] sp_sides_of) (A_most_at : At P w K mg base 2 "most_at" ["web"] sp_most_at) (A_steps_for : At P w K mg base 6 "steps_for" ["web", "hueing", "tie", "hues"] sp_steps_for) (A_done_step : At P w K mg base 8 "done_step" ["web", "hueing", "step"] sp_done_step) :
    At P w K mg base 9 "by_rows" ["web"] sp_by_rows := D.at fun f fd F => by
  refine F.ok sc_by_rows (fun vs H Q E h => ?_) (fun cdv A outer s H vs Q E hr h => ?_)
  · obtain ⟨a, n, E, rfl, _⟩ := h
    rfl
  · obtain ⟨a, n, E, rfl, W, two, k⟩ := h
    refine ⟨_, (pss_cons (ps_expr (pe_at A_sides_of (hr.mono (by decide)) (pa_cons (pv 0) pa_nil)))
      (pss_cons (ps_set (i := 1) sc_by_rows.nd rfl (Or.inl rfl) (pe_at A_most_at (hr.mono (by decide)) (pa_cons (pv 0) pa_nil)))
      (pss_cons (ps_set (i := 2) sc_by_rows.nd rfl (Or.inl rfl) (pe_op op_rep (pe_lst (pa_cons pe_non pa_nil)) (pe_callB call_len_seq (by rfl) T.len PySem.boot_len (pa_cons (pe_ix ix_tup (pv 0) pe_int (fun _ _ => rfl)) pa_nil))))
      (pss_cons (ps_set (i := 3) sc_by_rows.nd rfl (Or.inl rfl) (pe_lst pa_nil))
      (pss_cons (ps_for PassesOwn.never rfl (pi_range1 rfl T.range (pa_cons (pe_callB call_len_seq (by rfl) T.len PySem.boot_len (pa_cons (pe_ix ix_tup (pv 0) pe_int (fun _ _ => rfl)) pa_nil)) pa_nil)) (pg_name (i := 4) sc_by_rows.nd rfl (Or.inl rfl)) (pss_one (ps_for PassesOwn.never rfl (pi_list (pe_at A_steps_for (hr.mono (by decide)) (pa_cons (pv 0) (pa_cons (pv 2) (pa_cons (pv 4) (pa_cons (pv 1) pa_nil)))))) (pg_name (i := 5) sc_by_rows.nd rfl (Or.inl rfl)) (pss_cons (ps_set (i := 2) sc_by_rows.nd rfl (Or.inl rfl) (pe_at A_done_step (hr.mono (by decide)) (pa_cons (pv 0) (pa_cons (pv 2) (pa_cons (pv 5) pa_nil)))))
      (pss_one (ps_expr (pe_bm PySem.F.plainAttrs_list PySem.F.slot_list_append PySem.F.type_list_append mt_append (pv 3) (pa_cons (pv 5) pa_nil))))))))
      (pss_one (ps_ret (pe_tup (pa_cons (pv 2) (pa_cons (pv 3) pa_nil)))))))))), ?_⟩
    have hln := W.ln
    have hle := W.le
    obtain ⟨b, ts, CW⟩ := W.at_
    refine q_dropP (ep_call (P := fun v H2 => ∃ l, v = .ref l ∧ Sided n E l H2) (ea_cons (ev_var rfl) ea_nil) (sp_sides_of_of W two)) fun v H1 e1 hv => ?_
    obtain ⟨sd, two'⟩ := two
    refine q_asg (ev_call (ea_cons (ev_var rfl) ea_nil) (sv_most_at (W.ex e1))) fun H2 e2 => ?_
    have ex2 := e1.trans e2
    have hml := K87.most_le_len n E
    refine q_asgL (xs := optL E.length h0) (el_is (el_rep (n := E.length) (x := .non) (el_lst (ea_cons ev_c ea_nil) (show 1 ≤ 100000 by decide)) (fun H3 e3 => ev_m (CW.ex (ex2.trans e3)) (ev_var rfl)) (by omega)) (by
      apply List.ext_getElem?
      intro i
      by_cases hi : i < E.length
      · rw [optL_get hi, List.getElem?_replicate, if_pos hi]; rfl
      · rw [List.getElem?_eq_none (by rw [List.length_replicate]; omega), List.getElem?_eq_none (by rw [optL_len]; omega)])) fun hl H3 hhl e3 h3 => ?_
    refine q_asgL (el_lst ea_nil (show 0 ≤ 100000 by decide)) fun sl H4 hsl e4 h4 => ?_
    have ex4 := (ex2.trans e3).trans e4
    have hsl0 := fresh_back (ex2.trans e3) hsl
    refine q_forR1 (ea_cons (ev_m (CW.ex ex4) (ev_var rfl)) ea_nil) (by omega) (fun i σ' H' => ∃ (l : List HStep) (he : Addr) (as : List Addr) (x4 x5 : Option V), Ex H H' ∧ H' sl = some (.lst (as.map V.ref)) ∧ StepsAt H' as l ∧ K87.RunOk n E h0 l ∧ K87.Proper E (K87.runTo n E h0 l) ∧ H' he = some (.lst (optL E.length (K87.runTo n E h0 l))) ∧ he ≠ sl ∧
        (∀ t, (K87.runTo n E h0 l t).isSome = decide (t < i)) ∧ l.length ≤ 2 * i ∧ σ' = [some (.ref a), some (.int (K87.mostAt n E : Nat)), some (.ref he), some (.ref sl), x4, x5])
      (fun H5 e5 => ⟨[], hl, [], _, _, ex4.trans e5, e5 _ _ h4, ⟨rfl, fun i a s z => by simp at z⟩, trivial, fun t u p c _ _ _ _ z => (by cases z), e5 _ _ (e4 _ _ h3), ne_of_none h3 hsl, fun t => by rw [decide_eq_false (Nat.not_lt_zero _)]; rfl, Nat.le_refl _, rfl⟩) (fun i σ' H' hi p => ?_) fun σ' H' p => ?_
    · obtain ⟨l, he, as, x4, x5, p1, s1, SA, run, pr, hh1, nhs, hsome, hll, rfl⟩ := p
      have hi' : i < E.length := by omega
      have hn : K87.runTo n E h0 l i = none := by
        have := hsome i
        rw [decide_eq_false (Nat.lt_irrefl _)] at this
        exact Option.not_isSome_iff_eq_none.mp (by rw [this]; decide)
      have FO := K87.for_ok W.ok two' pr hi' hn (fun p hp => K87.deg_le_most hp)
      have hfl := stepsFor_len E (K87.runTo n E h0 l) i (K87.mostAt n E)
      refine s_forP (ep_call (P := StepsV H' (K87.stepsFor E (K87.runTo n E h0 l) i (K87.mostAt n E))) (ea_cons (ev_var rfl) (ea_cons (ev_var rfl) (ea_cons (ev_var rfl) (ea_cons (ev_var rfl) ea_nil)))) fun H5 e5 Q _ q => ⟨a, he, n, i, K87.mostAt n E, E, K87.runTo n E h0 l, rfl, (W.ex p1).ex e5, e5 _ _ hh1, hi', hn, fun p hp => K87.deg_le_most hp, by omega, fun v H6 e6 hv => q v H6 e6 (by
        obtain ⟨r, as', g1, g2, g3⟩ := hv
        exact ⟨r, as', g1, fresh_back e5 g2, g3⟩)⟩) fun v H5 e5 hv => ?_
      obtain ⟨r, bs, rfl, hr0, hr1, SB⟩ := hv
      generalize hL : K87.stepsFor E (K87.runTo n E h0 l) i (K87.mostAt n E) = L at FO hfl SB ⊢
      have bl := SB.len
      have nrs : sl ≠ r := ne_of_none s1 hr0
      refine s_forLn (xs := bs.map V.ref) ev_c (sq_of hr1) (fun j σ' H' => ∃ (he : Addr) (x5 : Option V), Ex H H' ∧ H' r = some (.lst (bs.map V.ref)) ∧ StepsAt H' bs L ∧ H' sl = some (.lst ((as ++ bs.take j).map V.ref)) ∧ StepsAt H' (as ++ bs.take j) (l ++ L.take j) ∧ H' he = some (.lst (optL E.length (K87.runTo n E (K87.runTo n E h0 l) (L.take j)))) ∧ he ≠ sl ∧ σ' = [some (.ref a), some (.int (K87.mostAt n E : Nat)), some (.ref he), some (.ref sl), some (.int (i : Int)), x5])
        (fun H6 e6 => ⟨he, _, (p1.trans e5).trans e6, e6 _ _ hr1, SB.ex (TEx.of e6), by rw [List.take_zero, List.append_nil]; exact e6 _ _ (e5 _ _ s1), by rw [List.take_zero, List.take_zero, List.append_nil, List.append_nil]; exact SA.ex (TEx.of (e5.trans e6)), by rw [List.take_zero]; exact e6 _ _ (e5 _ _ hh1), nhs, rfl⟩) (fun j σ' H' _ q => by obtain ⟨_, _, _, q2, _⟩ := q; exact sq_of q2) (fun j x σ' H' hx q => ?_) fun σ' H' q => ?_
      · obtain ⟨he2, x5', q1, q2, SB2, q4, S5, q6, q7, rfl⟩ := q
        have hj : j < bs.length := by rw [← List.length_map (f := V.ref)]; exact (List.getElem?_eq_some_iff.mp hx).1
        obtain ⟨u, hu⟩ : ∃ u, bs[j]? = some u := ⟨_, List.getElem?_eq_getElem hj⟩
        rw [List.getElem?_map, hu] at hx
        cases hx
        obtain ⟨sp, hsp⟩ : ∃ sp, L[j]? = some sp := ⟨L[j], List.getElem?_eq_getElem (by omega)⟩
        have sat := SB2.at_ j u sp hu hsp
        refine q_asgL (el_call (ea_cons (ev_var rfl) (ea_cons (ev_var rfl) (ea_cons (ev_var rfl) ea_nil))) (sl_done_step (W.ex q1) two' q6 sat (FO.run.at hsp))) fun md H6 hmd e6 h6 => ?_
        rw [← K87.runTo_take hsp] at h6
        have nms : md ≠ sl := Ne.symm (ne_of_none q4 hmd)
        have alen := SA.len
        refine s_app (e6 _ _ q4) (ev_var rfl) (ev_var rfl) (by rw [List.length_map, List.length_append, List.length_take]; omega) fun H7 e7 => ?_
        have tb : bs.take (j + 1) = bs.take j ++ [u] := by rw [List.take_succ, hu]; rfl
        have tL : L.take (j + 1) = L.take j ++ [sp] := by rw [List.take_succ, hsp]; rfl
        have ts7 : TEx H' (upd H7 sl (.lst ((as ++ bs.take j).map V.ref ++ [.ref u]))) := (TEx.of (e6.trans e7)).trans (TEx.upd (e7 _ _ (e6 _ _ q4)) (fun _ z => by cases z))
        refine ⟨md, _, Ex.mut ((q1.trans e6).trans e7) hsl0, by rw [upd_ne (Ne.symm nrs)]; exact e7 _ _ (e6 _ _ q2), SB2.ex ts7, ?_, ?_, by rw [upd_ne nms]; exact e7 _ _ h6, nms, rfl⟩
        · rw [upd_same, tb, ← List.append_assoc]
          simp only [List.map_append, List.map_cons, List.map_nil]
        · rw [tb, tL, ← List.append_assoc, ← List.append_assoc]
          exact (S5.ex ts7).snoc (sat.ex ts7)
      · obtain ⟨he2, x5', q1, q2, SB2, q4, S5, q6, q7, rfl⟩ := q
        rw [List.length_map] at q4 S5 q6
        rw [List.take_length] at q4 S5
        rw [bl, List.take_length] at S5 q6
        rw [← K87.runTo_append] at q6
        have e0 := FO.some
        rw [← K87.runTo_append] at e0
        have pr2 := FO.prop
        rw [← K87.runTo_append] at pr2
        refine ⟨l ++ L, he2, as ++ bs, _, _, q1, q4, S5, run.append FO.run, pr2, q6, q7, fun t => ?_, by rw [List.length_append]; omega, rfl⟩
        rw [K87.runTo_append, FO.some, hsome]
        rw [Bool.eq_iff_iff, Bool.or_eq_true, decide_eq_true_eq, decide_eq_true_eq, beq_iff_eq]
        omega
    · obtain ⟨l, he, as, x4, x5, p1, s1, SA, run, pr, hh1, nhs, hsome, hll, rfl⟩ := p
      rw [show ((E.length : Int).toNat) = E.length by omega] at hsome hll
      refine s_retU (eu_tup2 (ev_var rfl) (ev_var rfl)) fun q H5 hq e5 h5 => ?_
      exact k _ H5 (p1.trans e5) ⟨q, he, sl, as, l, rfl, h5, e5 _ _ hh1, e5 _ _ s1, SA.ex (TEx.of e5), run, pr, fun t ht z => (by
        have := hsome t
        rw [z, decide_eq_true ht] at this
        cases this), by omega⟩
end
end K87W
/-! twosided.py: by_pairings, parts_of -/
namespace K87W
open PySem PySem.Spec PyProof.Rows L2 Evl K87X
section
variable {K : PySem.W.Frag} {σ : L2.St} {H H' : Hp} {ta tb te tl : TE} {x y z u : V} {D : Ends} {P P' : V → Hp → Prop} {xs ys : List V} {g : TG} {tu tz : TS} {tt : TT} {vs : List Nat}
/-- a comprehension over what a call answers -/
theorem ep_bindI (h : EvP tl σ H P) (k : ∀ v H1, Ex H H1 → P v H1 → EvP (tLc (iList K (tC v)) g tt te vs) σ H1 P') : EvP (tLc (iList K tl) g tt te vs) σ H P' := fun H0 e Q q =>
  h H0 e _ fun v H1 e1 hp => k v H1 (e.trans e1) hp H1 (Ex.refl _) Q fun u H2 e2 pu => q u H2 (e1.trans e2) pu
end
theorem nodup_getD {l r : List Nat} (nd : l.Nodup) (hr : r.Nodup) (hlt : ∀ i ∈ r, i < l.length) : (r.map fun i => l.getD i 0).Nodup := by
  refine K87.nodup_map_inj hr fun a ha b hb z => ?_
  have h1 := hlt a ha
  have h2 := hlt b hb
  rw [List.getD_eq_getElem?_getD, List.getD_eq_getElem?_getD, List.getElem?_eq_getElem h1, List.getElem?_eq_getElem h2] at z
  exact (List.getElem_inj nd).mp z
theorem all_getD {l r : List Nat} {m : Nat} (hl : ∀ t ∈ l, t < m) (hlt : ∀ i ∈ r, i < l.length) : ∀ t ∈ r.map fun i => l.getD i 0, t < m := fun t ht => by
  obtain ⟨i, hi, rfl⟩ := List.mem_map.mp ht
  exact hl _ (getD_mem' (hlt i hi))
section
variable {P : Program} {w : World} {K : PySem.W.Frag} {mg : Str → Option Value} {base : Heap}
structure RowG (E : List K87.Tie) (r : List Nat) : Prop where
  nd : r.Nodup
  apart : K87.Apart E r
  lt : ∀ t ∈ r, t < E.length
structure RowsL (H : Hp) (E : List K87.Tie) (as : List Addr) (rs : List (List Nat)) : Prop where
  len : as.length = rs.length
  at_ : ∀ (i : Nat) (a : Addr) (r : List Nat), as[i]? = some a → rs[i]? = some r → H a = some (.lst (natL r)) ∧ RowG E r
theorem RowsL.ex {H H' : Hp} {E : List K87.Tie} {as : List Addr} {rs : List (List Nat)} (R : RowsL H E as rs) (e : ∀ a ∈ as, ∀ o, H a = some o → H' a = some o) : RowsL H' E as rs := ⟨R.len, fun i a r h1 h2 => ⟨e _ (List.mem_of_getElem? h1) _ (R.at_ i a r h1 h2).1, (R.at_ i a r h1 h2).2⟩⟩
theorem RowsL.snoc {H : Hp} {E : List K87.Tie} {as : List Addr} {rs : List (List Nat)} {a : Addr} {r : List Nat} (R : RowsL H E as rs) (h : H a = some (.lst (natL r))) (g : RowG E r) : RowsL H E (as ++ [a]) (rs ++ [r]) := by
  refine ⟨by rw [List.length_append, List.length_append, R.len]; rfl, fun i b t hb ht => ?_⟩
  have hl := R.len
  by_cases hi : i < as.length
  · rw [List.getElem?_append_left hi] at hb
    rw [List.getElem?_append_left (by omega)] at ht
    exact R.at_ i b t hb ht
  · rw [List.getElem?_append_right (by omega)] at hb
    rw [List.getElem?_append_right (by omega)] at ht
    have h0 : i - as.length = 0 := by
      by_cases h0 : i - as.length = 0
      · exact h0
      · rw [List.getElem?_eq_none (by simp; omega)] at hb
        cases hb
    rw [h0] at hb
    rw [show i - rs.length = 0 by omega] at ht
    cases hb
    cases ht
    exact ⟨h, g⟩
abbrev s_by_pairings : Stmt := topS 66
abbrev n_by_pairings : List Str := ["web", "left", "found", "paired", "number", "tie"]
theorem sc_by_pairings : FnScope n_by_pairings ["web"] (defScope s_by_pairings) := ⟨rfl, rfl, rfl, by decide +kernel, rfl, by decide +kernel, by decide +kernel⟩
def PairsV (E : List K87.Tie) : V → Hp → Prop := fun v H' => ∃ (l : Addr) (as : List Addr) (rs : List (List Nat)), v = .ref l ∧ H' l = some (.lst (as.map V.ref)) ∧ RowsL H' E as rs ∧ as.length ≤ 1000
def sp_by_pairings : Sp := fun vs H Q _ => ∃ (a : Addr) (n : Nat) (E : List K87.Tie), vs = [.ref a] ∧ Web H a n E ∧ (∃ s, K87.Two E s) ∧ RetP (PairsV E) H Q
theorem ok_by_pairings (D : DefAt K mg "by_pairings" s_by_pairings ["web"]) (T : Txt mg) (A_sides_of : At P w K mg base 5 "sides_of" ["web"] sp_sides_of) (A_only : At P w K mg base 3 "only" ["web", "ties"] sp_only) (A_full_pairing : At P w K mg base 6 "full_pairing" ["web"] sp_full_pairing) :
    At P w K mg base 7 "by_pairings" ["web"] sp_by_pairings := D.at fun f fd F => by
  refine F.ok sc_by_pairings (fun vs H Q E h => ?_) (fun cdv A outer s H vs Q E hr h => ?_)
  · obtain ⟨a, n, E, rfl, _⟩ := h
    rfl
  · obtain ⟨a, n, E, rfl, W, two, k⟩ := h
    refine ⟨_, (pss_cons (ps_expr (pe_at A_sides_of (hr.mono (by decide)) (pa_cons (pv 0) pa_nil)))
      (pss_cons (ps_set (i := 1) sc_by_pairings.nd rfl (Or.inr rfl) (pe_listRg rfl rfl T.list (prg_1 rfl T.range (pe_callB call_len_seq (by rfl) T.len PySem.boot_len (pa_cons (pe_ix ix_tup (pv 0) pe_int (fun _ _ => rfl)) pa_nil)))))
      (pss_cons (ps_set (i := 2) sc_by_pairings.nd rfl (Or.inl rfl) (pe_lst pa_nil))
      (pss_cons (ps_while PassesOwn.never (pt_cmpR op_gt (pe_callB call_len_seq (by rfl) T.len PySem.boot_len (pa_cons (pv 1) pa_nil)) pe_int (nomark _)) (pss_cons (ps_set (i := 3) sc_by_pairings.nd rfl (Or.inr rfl) (pe_lc (own := [("number", 4)]) rfl sc_by_pairings.nd (pi_list (pe_at A_full_pairing (hr.mono (by decide)) (pa_cons (pe_at A_only (hr.mono (by decide)) (pa_cons (pv 0) (pa_cons (pv 1) pa_nil))) pa_nil))) (blkOk_by (own := [("number", 4)]) (N := n_by_pairings) (sc := defScope s_by_pairings) (by decide +kernel)) (fun _ _ _ _ _ => (pg_name (i := 4) sc_by_pairings.nd rfl (Or.inl rfl))) (fun _ _ _ _ _ => pts_nil) (fun _ _ _ _ _ => (pe_ix (r := rIxL K) ix_list (pv 1) (pv 4) (fun _ _ => rfl)))))
      (pss_cons (ps_expr (pe_bm PySem.F.plainAttrs_list PySem.F.slot_list_append PySem.F.type_list_append mt_append (pv 2) (pa_cons (pv 3) pa_nil)))
      (pss_one (ps_set (i := 1) sc_by_pairings.nd rfl (Or.inr rfl) (pe_lc (own := [("tie", 5)]) rfl sc_by_pairings.nd (pi_list (pv 1)) (blkOk_by (own := [("tie", 5)]) (N := n_by_pairings) (sc := defScope s_by_pairings) (by decide +kernel)) (fun _ _ _ _ _ => (pg_name (i := 5) sc_by_pairings.nd rfl (Or.inl rfl))) (fun _ _ _ _ _ => pts_one (pt_cmpR (r := rIn K true) op_notIn_seq (pv 5) (pv 3) (by rfl))) (fun _ _ _ _ _ => (pv 5))))))))
      (pss_one (ps_ret (pv 2))))))), ?_⟩
    have hln := W.ln
    have hle := W.le
    obtain ⟨b, ts, CW⟩ := W.at_
    refine q_dropP (ep_call (P := fun v H2 => ∃ l, v = .ref l ∧ Sided n E l H2) (ea_cons (ev_var rfl) ea_nil) (sp_sides_of_of W two)) fun v H1 e1 hv => ?_
    obtain ⟨sd, two'⟩ := two
    refine q_asgL (el_rg (ev_m (CW.ex e1) (ev_var rfl)) (by omega)) fun le H2 hle2 e2 h2 => ?_
    have ex2 := e1.trans e2
    refine q_asgL (el_lst ea_nil (show 0 ≤ 100000 by decide)) fun fo H3 hfo e3 h3 => ?_
    have ex3 := ex2.trans e3
    have hfo0 := fresh_back ex2 hfo
    refine q_while (fun m σ' H' => ∃ (L : List Nat) (lf : Addr) (as : List Addr) (rs : List (List Nat)) (x3 x4 x5 : Option V), m = L.length ∧ Ex H H' ∧ H' lf = some (.lst (natL L)) ∧ L.Nodup ∧ (∀ t ∈ L, t < E.length) ∧ H' fo = some (.lst (as.map V.ref)) ∧ RowsL H' E as rs ∧ (fo ∉ as) ∧ lf ≠ fo ∧ as.length + L.length ≤ E.length ∧ σ' = [some (.ref a), some (.ref lf), some (.ref fo), x3, x4, x5]) _
      ⟨List.range E.length, le, [], [], _, _, _, rfl, ex3, e3 _ _ h2, List.nodup_range, fun t ht => List.mem_range.mp ht, h3, ⟨rfl, fun i a r z => by simp at z⟩, List.not_mem_nil, ne_of_none h2 hfo, by rw [List.length_range]; exact Nat.le_of_eq (Nat.zero_add _), rfl⟩ fun m σ' H' hw => ?_
    obtain ⟨L, lf, as, rs, x3, x4, x5, rfl, p1, l1, nd, lt, f1, R1, nf, nlf, hbnd, rfl⟩ := hw
    refine ⟨decide (0 < L.length), et_is (ev_len0 (ev_var rfl) l1) (by rw [natL_len]), fun hb H4 e4 => ?_, fun hb H4 e4 => ?_⟩
    · have hL := of_decide_eq_true hb
      have p4 := p1.trans e4
      have l4 := e4 _ _ l1
      have hz : L.length ≤ 90 := by omega
      refine ⟨_, fun _ _ z => z, ?_⟩
      refine q_asgP (P := fun v H' => ∃ p tl, v = .ref p ∧ H' p = some (.lst (natL (tl.map fun i => L.getD i 0))) ∧ H4 p = none ∧ K87.FullP n (K87.sub E L) tl) (ep_bindI (P := FullV n (K87.sub E L)) (ep_callP (P := fun v H2 => ∃ a', v = .ref a' ∧ Web H2 a' n (K87.sub E L)) (ep_call (ea_cons (ev_var rfl) (ea_cons (ev_var rfl) ea_nil)) (sp_only_of (W.ex p4) l4 lt hz)) fun v H5 e5 hv => by
        obtain ⟨a', rfl, W5⟩ := hv
        exact ep_call (ea_cons ev_c ea_nil) (sp_full_pairing_of W5 ⟨sd, K87.sub_Two two' lt⟩)) fun v H5 e5 hv => ?_) fun v H5 e5 hv => ?_
      · obtain ⟨q, tl, rfl, hq, FP⟩ := hv
        have hlt : ∀ i ∈ tl, i < L.length := fun i hi => by have := FP.lt i hi; rw [K87.sub_length] at this; exact this
        have htl : tl.length ≤ L.length := K87.len_le_range (K87.ris_nodup FP.ris) hlt
        refine (EvL.p (xs := natL (tl.map fun i => L.getD i 0)) (el_is (el_lcN (l := tl) (fun _ => true) (fun i => .int ((L.getD i 0 : Nat) : Int)) ev_c hq (by omega) (fun _ => rfl) (fun i H6 e6 hi => et_yes) (fun i H6 e6 hi _ => ev_op (ev_var rfl) (ev_var rfl) (rv_ixL (sq_of (e6 _ _ (e5 _ _ l4))) (atI_nat (natL_get (hlt i hi)))))) (by
          rw [List.filter_eq_self.mpr fun _ _ => rfl]
          unfold natL
          rw [List.map_map]
          rfl))).imp fun v H6 e6 hv => ?_
        obtain ⟨p, g1, g2, g3⟩ := hv
        exact ⟨p, tl, g1, g3, fresh_back e5 g2, FP⟩
      · obtain ⟨p, tl, rfl, hp, hp0, FP⟩ := hv
        have hlt : ∀ i ∈ tl, i < L.length := fun i hi => by have := FP.lt i hi; rw [K87.sub_length] at this; exact this
        have GO := FP.gone nd
        have hG : RowG E (tl.map fun i => L.getD i 0) := ⟨nodup_getD nd (K87.ris_nodup FP.ris) hlt, GO.apart, all_getD lt hlt⟩
        -- one at least is taken
        have hone : ∃ t ∈ L, t ∈ tl.map fun i => L.getD i 0 := by
          have wk := K87.sub_WOk W.ok lt
          have hm := K87.most_pos_of wk (by rw [K87.sub_length]; exact hL)
          obtain ⟨pp, q1, q2⟩ := K87.most_at_some (E := K87.sub E L) (K87.most_pos hm)
          obtain ⟨i, hi, _⟩ := FP.full pp q1 q2 hm
          exact ⟨L.getD i 0, getD_mem' (hlt i hi), List.mem_map.mpr ⟨i, hi, rfl⟩⟩
        generalize hgl : (tl.map fun i => L.getD i 0) = gl at hp hG hone GO
        have f5 := e5 _ _ (e4 _ _ f1)
        have npf : p ≠ fo := Ne.symm (ne_of_none (e4 _ _ f1) hp0)
        have alen := R1.len
        refine q_app f5 (ev_var rfl) (ev_var rfl) (by rw [List.length_map]; omega) fun H6 e6 => ?_
        have m6 : Ex H (upd H6 fo (.lst (as.map V.ref ++ [.ref p]))) := Ex.mut ((p4.trans e5).trans e6) hfo0
        have f6 : (upd H6 fo (.lst (as.map V.ref ++ [.ref p]))) fo = some (.lst ((as ++ [p]).map V.ref)) := by rw [upd_same, List.map_append]; rfl
        have l6 : (upd H6 fo (.lst (as.map V.ref ++ [.ref p]))) lf = some (.lst (natL L)) := by rw [upd_ne nlf]; exact e6 _ _ (e5 _ _ l4)
        have p6 : (upd H6 fo (.lst (as.map V.ref ++ [.ref p]))) p = some (.lst (natL gl)) := by rw [upd_ne npf]; exact e6 _ _ hp
        have R6 : RowsL (upd H6 fo (.lst (as.map V.ref ++ [.ref p]))) E (as ++ [p]) (rs ++ [gl]) := (R1.ex fun c hc o ho => by
          rw [upd_ne (fun z => nf (by rw [← z]; exact hc))]
          exact e6 _ _ (e5 _ _ (e4 _ _ ho))).snoc p6 hG
        generalize upd H6 fo (.lst (as.map V.ref ++ [.ref p])) = G6 at m6 f6 l6 p6 R6 ⊢
        have glen : gl.length ≤ 1000 := by
          have := K87.len_le_range hG.nd hG.lt
          omega
        refine s_asgL (xs := natL (L.filter fun t => decide (t ∉ gl))) (el_lcN (fun t => decide (t ∉ gl)) (fun (t : Nat) => .int (t : Int)) (ev_var rfl) l6 (by omega) (fun _ => rfl) (fun t H7 e7 ht => et_test (ev_is (ev_op (ev_var rfl) (ev_var rfl) (rv_niL (sq_of (e7 _ _ p6)) rfl (natL_flat _))) (congrArg V.bl (by rw [inV_natL]; simp)))) (fun t H7 e7 ht _ => ev_var rfl)) fun q H7 hq e7 h7 => ?_
        have hlen : (L.filter fun t => decide (t ∉ gl)).length < L.length := by
          obtain ⟨t, ht, htg⟩ := hone
          have h8 : (L.filter fun t => decide (t ∉ gl)).length ≠ L.length := fun z => by
            have := List.length_filter_eq_length_iff.mp z t ht
            exact (of_decide_eq_true this) htg
          have := List.length_filter_le (fun t => decide (t ∉ gl)) L
          omega
        refine ⟨(L.filter fun t => decide (t ∉ gl)).length, hlen, _, q, as ++ [p], rs ++ [gl], _, _, _, rfl, m6.trans e7, h7, nd.sublist List.filter_sublist, fun t ht => lt t (List.mem_filter.mp ht).1, e7 _ _ f6, R6.ex fun c _ o ho => e7 _ _ ho, fun z => ?_, Ne.symm (ne_of_none f6 hq), by rw [List.length_append]; show as.length + 1 + _ ≤ _; omega, rfl⟩
        rcases List.mem_append.mp z with z | z
        · exact nf z
        · exact npf (List.mem_singleton.mp z).symm
    · exact s_ret (ev_var rfl) fun H5 e5 => k _ H5 ((p1.trans e4).trans e5) ⟨fo, as, rs, rfl, e5 _ _ (e4 _ _ f1), R1.ex fun c _ o ho => e5 _ _ (e4 _ _ ho), by omega⟩
/-! parts_of -/
structure PartsR (n : Nat) (E : List K87.Tie) (L r0 r1 : List Nat) : Prop where
  nd0 : r0.Nodup
  nd1 : r1.Nodup
  lt0 : ∀ i ∈ r0, i < L.length
  lt1 : ∀ i ∈ r1, i < L.length
  sum : K87.mostAt n (K87.sub (K87.sub E L) r0) + K87.mostAt n (K87.sub (K87.sub E L) r1) ≤ K87.mostAt n (K87.sub E L)
  le0 : K87.mostAt n (K87.sub (K87.sub E L) r0) < K87.mostAt n (K87.sub E L)
  le1 : K87.mostAt n (K87.sub (K87.sub E L) r1) < K87.mostAt n (K87.sub E L)
theorem parts_odd {n : Nat} {E : List K87.Tie} {L ts : List Nat} (h2 : 2 ≤ K87.mostAt n (K87.sub E L)) (FP : K87.FullP n (K87.sub E L) ts) (ho : K87.mostAt n (K87.sub E L) % 2 = 1) : PartsR n E L ts ((List.range L.length).filter fun i => decide (i ∉ ts)) := by
  have hlt : ∀ i ∈ ts, i < L.length := fun i hi => by have := FP.lt i hi; rw [K87.sub_length] at this; exact this
  have m0 := K87.most_apart (n := n) (K87.ris_nodup FP.ris) FP.apart
  have m1 : K87.mostAt n (K87.sub (K87.sub E L) ((List.range L.length).filter fun i => decide (i ∉ ts))) = K87.mostAt n (K87.sub E L) - 1 := by
    have hs : K87.sub (K87.sub E L) (List.range L.length) = K87.sub E L := by
      have := K87.sub_range (E := K87.sub E L)
      rw [K87.sub_length] at this
      exact this
    have FP' : K87.FullP n (K87.sub (K87.sub E L) (List.range L.length)) ts := by rw [hs]; exact FP
    have G := FP'.gone List.nodup_range
    have e : (ts.map fun i => (List.range L.length).getD i 0) = ts := by
      conv => rhs; rw [← List.map_id ts]
      refine List.map_congr_left fun i hi => ?_
      rw [List.getD_eq_getElem?_getD, List.getElem?_range (hlt i hi)]
      rfl
    rw [e] at G
    have := G.less (by rw [hs]; omega)
    rw [hs] at this
    exact this
  exact ⟨K87.ris_nodup FP.ris, List.nodup_range.sublist List.filter_sublist, hlt, fun i hi => List.mem_range.mp (List.mem_filter.mp hi).1, by omega, by omega, by omega⟩
theorem parts_even {n : Nat} {E : List K87.Tie} {L h0 h1 : List Nat} (h2 : 2 ≤ K87.mostAt n (K87.sub E L)) (Ha : K87.Halved n (K87.sub E L) h0 h1) (he : ¬ K87.mostAt n (K87.sub E L) % 2 = 1) : PartsR n E L h0 h1 := by
  have m0 := Ha.most0
  have m1 := Ha.most1
  exact ⟨Ha.nd0, Ha.nd1, fun i hi => by have := Ha.lt0 i hi; rw [K87.sub_length] at this; exact this, fun i hi => by have := Ha.lt1 i hi; rw [K87.sub_length] at this; exact this, by omega, by omega, by omega⟩
abbrev s_parts_of : Stmt := topS 67
abbrev n_parts_of : List Str := ["web", "ties", "own", "first", "number"]
theorem sc_parts_of : FnScope n_parts_of ["web", "ties"] (defScope s_parts_of) := ⟨rfl, rfl, rfl, by decide +kernel, rfl, by decide +kernel, by decide +kernel⟩
def PartsV (H0 : Hp) (n : Nat) (E : List K87.Tie) (L : List Nat) : V → Hp → Prop := fun v H' => ∃ (l a0 a1 : Addr) (r0 r1 : List Nat), v = .ref l ∧ H0 l = none ∧ H0 a0 = none ∧ H0 a1 = none ∧ H' l = some (.lst [.ref a0, .ref a1]) ∧ H' a0 = some (.lst (natL r0)) ∧ H' a1 = some (.lst (natL r1)) ∧ PartsR n E L r0 r1
def sp_parts_of : Sp := fun vs H Q _ => ∃ (a tl : Addr) (n : Nat) (E : List K87.Tie) (L : List Nat), vs = [.ref a, .ref tl] ∧ Web H a n E ∧ (∃ s, K87.Two E s) ∧ H tl = some (.lst (natL L)) ∧ (∀ t ∈ L, t < E.length) ∧ L.length ≤ 90 ∧ 2 ≤ K87.mostAt n (K87.sub E L) ∧ RetP (PartsV H n E L) H Q
theorem ok_parts_of (D : DefAt K mg "parts_of" s_parts_of ["web", "ties"]) (T : Txt mg) (A_only : At P w K mg base 3 "only" ["web", "ties"] sp_only) (A_most_at : At P w K mg base 2 "most_at" ["web"] sp_most_at) (A_full_pairing : At P w K mg base 6 "full_pairing" ["web"] sp_full_pairing) (A_halves : At P w K mg base 6 "halves" ["web"] sp_halves) :
    At P w K mg base 7 "parts_of" ["web", "ties"] sp_parts_of := D.at fun f fd F => by
  refine F.ok sc_parts_of (fun vs H Q E h => ?_) (fun cdv A outer s H vs Q E hr h => ?_)
  · obtain ⟨a, tl, n, E, L, rfl, _⟩ := h
    rfl
  · obtain ⟨a, tl, n, E, L, rfl, W, ⟨sd, two⟩, htl, lt, hz, h2, k⟩ := h
    refine ⟨_, (pss_cons (ps_set (i := 2) sc_parts_of.nd rfl (Or.inl rfl) (pe_at A_only (hr.mono (by decide)) (pa_cons (pv 0) (pa_cons (pv 1) pa_nil))))
      (pss_cons (ps_if (pt_cmpR op_eq (pe_op op_mod (pe_at A_most_at (hr.mono (by decide)) (pa_cons (pv 2) pa_nil)) pe_int) pe_int (nomark _)) (pss_cons (ps_set (i := 3) sc_parts_of.nd rfl (Or.inr rfl) (pe_at A_full_pairing (hr.mono (by decide)) (pa_cons (pv 2) pa_nil)))
      (pss_one (ps_ret (pe_lst (pa_cons (pv 3) (pa_cons (pe_lc (own := [("number", 4)]) rfl sc_parts_of.nd (pi_range1 rfl T.range (pa_cons (pe_callB call_len_seq (by rfl) T.len PySem.boot_len (pa_cons (pv 1) pa_nil)) pa_nil)) (blkOk_by (own := [("number", 4)]) (N := n_parts_of) (sc := defScope s_parts_of) (by decide +kernel)) (fun _ _ _ _ _ => (pg_name (i := 4) sc_parts_of.nd rfl (Or.inl rfl))) (fun _ _ _ _ _ => pts_one (pt_cmpR (r := rIn K true) op_notIn_seq (pv 4) (pv 3) (by rfl))) (fun _ _ _ _ _ => (pv 4))) pa_nil)))))) pss_nil)
      (pss_one (ps_ret (pe_callTy call_list_of (by rfl) T.list (by decide +kernel) (pa_cons (pe_at A_halves (hr.mono (by decide)) (pa_cons (pv 2) pa_nil)) pa_nil)))))), ?_⟩
    refine q_asgP (ep_call (P := fun v H2 => ∃ a', v = .ref a' ∧ Web H2 a' n (K87.sub E L)) (ea_cons (ev_var rfl) (ea_cons (ev_var rfl) ea_nil)) (sp_only_of W htl lt hz)) fun v H1 e1 hv => ?_
    obtain ⟨a', rfl, W1⟩ := hv
    have two1 : ∃ s, K87.Two (K87.sub E L) s := ⟨sd, K87.sub_Two two lt⟩
    refine q_when (b := decide (K87.mostAt n (K87.sub E L) % 2 = 1)) (et_test (ev_is (ev_op (ev_op (ev_call (ea_cons (ev_var rfl) ea_nil) (sv_most_at W1)) ev_c (rv_I (by decide))) ev_c (rv_eq rfl)) (congrArg V.bl (decide_eq_decide.mpr ⟨fun z => by injection z with z; omega, fun z => by congr 1; omega⟩)))) (fun hb H2 e2 => ?_) (fun hb H2 e2 => ?_)
    · refine q_asgP (ep_call (P := FullVF H2 n (K87.sub E L)) (ea_cons (ev_var rfl) ea_nil) (sp_full_pairing_fr (W1.ex e2) two1)) fun v H3 e3 hv => ?_
      obtain ⟨q, ts, rfl, hqf, hq, FP⟩ := hv
      have ex3 := (e1.trans e2).trans e3
      have PR := parts_odd h2 FP (of_decide_eq_true hb)
      have tlen : ts.length ≤ L.length := K87.len_le_range PR.nd0 PR.lt0
      have hL1 : EvL (tLc (iRng1 (tCons (tCB (rLenS K) (tCons (tVar 1) tNil)) tNil)) (gName 4) (tTest (tOp (rIn K true) (tVar 4) (tVar 3))) (tVar 4) [4]) [some (.ref a), some (.ref tl), some (.ref a'), some (.ref q), none] H3 (natL ((List.range L.length).filter fun i => decide (i ∉ ts))) :=
        el_is (el_lcR1 (n := (L.length : Int)) (fun i => decide (i ∉ ts)) (fun (i : Nat) => .int (i : Int)) (ea_cons (ev_is (ev_len (K := K) (ev_var rfl) (sq_of (ex3 _ _ htl))) (by rw [natL_len])) ea_nil) (by omega) (fun _ => rfl) (fun i H4 e4 hi => et_test (ev_is (ev_op (ev_var rfl) (ev_var rfl) (rv_niL (sq_of (e4 _ _ hq)) rfl (natL_flat _))) (congrArg V.bl (by rw [inV_natL]; simp)))) (fun i H4 e4 hi _ => ev_var rfl)) (by rw [show ((L.length : Int).toNat) = L.length by omega]; rfl)
      refine s_retP (P := PartsV H n E L) (fun H4 e4 Q' q' => ?_) fun v H4 e4 hv => k v H4 (ex3.trans e4) hv
      exact ⟨.ref q, rfl, hL1 H4 e4 _ fun p H5 hp e5 h5 => ⟨show 2 ≤ sizeLine by decide, fun r hr => q' _ _ (e5.trans (Ex.new hr)) ⟨r, q, p, _, _, rfl, fresh_back ((ex3.trans e4).trans e5) hr, fresh_back (e1.trans e2) hqf, fresh_back (ex3.trans e4) hp, upd_same, Ex.new hr _ _ (e5 _ _ (e4 _ _ hq)), Ex.new hr _ _ h5, PR⟩⟩⟩
    · have ex2 := e1.trans e2
      refine s_retP (P := PartsV H n E L) (fun H4 e4 Q' q' => ?_) fun v H4 e4 hv => k v H4 (ex2.trans e4) hv
      exact (ep_call (E := E0) (P := HalfVF H2 n (K87.sub E L)) (ea_cons (ev_var (i := 2) (v := .ref a') rfl) ea_nil) (sp_halves_fr (W1.ex e2) two1)) H4 e4 _ fun v H5 e5 hv => by
        obtain ⟨q, l0, l1, h0, h1, rfl, f0, f1, g1, g2, g3, Ha⟩ := hv
        exact ⟨q, [.ref l0, .ref l1], rfl, Or.inr (st_of g1), fun r hr => q' _ _ (e5.trans (Ex.new hr)) ⟨r, l0, l1, h0, h1, rfl, fresh_back ((ex2.trans e4).trans e5) hr, fresh_back ex2 f0, fresh_back ex2 f1, upd_same, Ex.new hr _ _ g2, Ex.new hr _ _ g3, parts_even h2 Ha (of_decide_eq_false hb)⟩⟩
end
end K87W
/-! twosided.py: by_halves -/
namespace K87W
open PySem PySem.Spec PyProof.Rows L2 Evl K87X
section
variable {K : PySem.W.Frag} {σ : L2.St} {H H' : Hp} {ta tb te tl : TE} {x y z u v : V} {D : Ends} {P P' : V → Hp → Prop} {t : TA} {tt : TT} {sp : Sp} {E : XK}
theorem ep_if {b : Bool} (h : EvT tt σ H b) (h1 : b = true → EvP ta σ H P) (h2 : b = false → EvP tb σ H P) : EvP (tIf tt ta tb) σ H P := fun H1 e Q q => h H1 e _ fun H2 e2 => by
  cases b with
  | true => exact h1 rfl H2 (e.trans e2) Q fun v H3 e3 p => q v H3 (e2.trans e3) p
  | false => exact h2 rfl H2 (e.trans e2) Q fun v H3 e3 p => q v H3 (e2.trans e3) p
theorem ev_callP (h : EvP ta σ H P) (k : ∀ v H1, Ex H H1 → P v H1 → Ev (tCall sp [] E (tCons (tC v) t)) σ H1 z) : Ev (tCall sp [] E (tCons ta t)) σ H z := fun H0 e Q q =>
  h H0 e _ fun v H1 e1 p => k v H1 (e.trans e1) p H1 (Ex.refl _) Q fun H2 e2 => q H2 (e1.trans e2)
theorem ep_lstTup {te : TE} {xs : List V} (h : EvL te σ H xs) : EvP (tLst (tCons (tTup (tCons te (tCons (tC x) tNil))) tNil)) σ H fun v H' => ∃ wl q tl, v = .ref wl ∧ H wl = none ∧ H tl = none ∧ H' wl = some (.lst [.ref q]) ∧ H' q = some (.tup [.ref tl, x]) ∧ H' tl = some (.lst xs) ∧ tl ≠ wl := fun H3 e3 Q' q' =>
  h H3 e3 _ fun tl H4 htl e4 h4 => ⟨show 2 ≤ sizeLine by decide, fun q hq => ⟨show 1 ≤ sizeLine by decide, fun wl hwl => q' _ _ ((e4.trans (Ex.new hq)).trans (Ex.new hwl)) ⟨wl, q, tl, rfl, fresh_back ((e3.trans e4).trans (Ex.new hq)) hwl, fresh_back e3 htl, upd_same, Ex.new hwl _ _ upd_same, Ex.new hwl _ _ (Ex.new hq _ _ h4), ne_of_none (Ex.new hq _ _ h4) hwl⟩⟩⟩
end
/-! what waits -/
abbrev Ent := List Nat × Nat
structure Ents (H : Hp) (bad : List Addr) (as : List Addr) (es : List Ent) : Prop where
  len : as.length = es.length
  at_ : ∀ (i : Nat) (q : Addr) (e : Ent), as[i]? = some q → es[i]? = some e → ∃ tl, H q = some (.tup [.ref tl, .int (e.2 : Nat)]) ∧ H tl = some (.lst (natL e.1)) ∧ tl ∉ bad
theorem Ents.fr {H H' : Hp} {bad S : List Addr} {as : List Addr} {es : List Ent} (X : Ents H bad as es) (f : FrS S H H') (hs : ∀ b ∈ S, b ∈ bad ∧ ∃ xs, H b = some (.lst xs)) : Ents H' bad as es := ⟨X.len, fun i q e h1 h2 => by
  obtain ⟨tl, g1, g2, g3⟩ := X.at_ i q e h1 h2
  exact ⟨tl, f _ _ (fun z => by
    obtain ⟨_, xs, h⟩ := hs _ z
    rw [h] at g1
    cases g1) g1, f _ _ (fun z => g3 (hs _ z).1) g2, g3⟩⟩
theorem Ents.snoc {H : Hp} {bad : List Addr} {as : List Addr} {es : List Ent} {q tl : Addr} {e : Ent} (X : Ents H bad as es) (h1 : H q = some (.tup [.ref tl, .int (e.2 : Nat)])) (h2 : H tl = some (.lst (natL e.1))) (h3 : tl ∉ bad) : Ents H bad (as ++ [q]) (es ++ [e]) := by
  refine ⟨by rw [List.length_append, List.length_append, X.len]; rfl, fun i b t hb ht => ?_⟩
  have hl := X.len
  by_cases hi : i < as.length
  · rw [List.getElem?_append_left hi] at hb
    rw [List.getElem?_append_left (by omega)] at ht
    exact X.at_ i b t hb ht
  · rw [List.getElem?_append_right (by omega)] at hb
    rw [List.getElem?_append_right (by omega)] at ht
    have h0 : i - as.length = 0 := by
      by_cases h0 : i - as.length = 0
      · exact h0
      · rw [List.getElem?_eq_none (by simp; omega)] at hb
        cases hb
    rw [h0] at hb
    rw [show i - es.length = 0 by omega] at ht
    cases hb
    cases ht
    exact ⟨tl, h1, h2, h3⟩
theorem Ents.init {H : Hp} {bad : List Addr} {as : List Addr} {es : List Ent} {q : Addr} {e : Ent} (X : Ents H bad (as ++ [q]) (es ++ [e])) : Ents H bad as es ∧ ∃ tl, H q = some (.tup [.ref tl, .int (e.2 : Nat)]) ∧ H tl = some (.lst (natL e.1)) ∧ tl ∉ bad := by
  have hl := X.len
  rw [List.length_append, List.length_append] at hl
  have hl' : as.length = es.length := by
    have : [q].length = 1 := rfl
    have : [e].length = 1 := rfl
    omega
  refine ⟨⟨hl', fun i b t hb ht => ?_⟩, X.at_ as.length q e ?_ ?_⟩
  · have h1 : i < as.length := (List.getElem?_eq_some_iff.mp hb).1
    exact X.at_ i b t (by rw [List.getElem?_append_left h1]; exact hb) (by rw [List.getElem?_append_left (by omega)]; exact ht)
  · rw [List.getElem?_append_right (Nat.le_refl _), Nat.sub_self]; rfl
  · rw [hl', List.getElem?_append_right (Nat.le_refl _), Nat.sub_self]; rfl
def Tm (m : Nat) : Nat := if m = 0 then 1 else 2 * m - 1
theorem Tm_c (k : Nat) : (k = 0 ∧ Tm k = 1) ∨ (k ≠ 0 ∧ Tm k = 2 * k - 1) := by
  unfold Tm
  by_cases h : k = 0
  · exact .inl ⟨h, if_pos h⟩
  · exact .inr ⟨h, if_neg h⟩
theorem Tm_pos (m : Nat) : 1 ≤ Tm m := by
  rcases Tm_c m with ⟨h1, h2⟩ | ⟨h1, h2⟩ <;> omega
theorem Tm_two {a b m : Nat} (h2 : 2 ≤ m) (h : a + b ≤ m) (ha : a < m) (hb : b < m) : Tm a + Tm b < Tm m := by
  rcases Tm_c a with ⟨a1, a2⟩ | ⟨a1, a2⟩ <;> rcases Tm_c b with ⟨b1, b2⟩ | ⟨b1, b2⟩ <;> rcases Tm_c m with ⟨m1, m2⟩ | ⟨m1, m2⟩ <;> omega
theorem Tm_le (m : Nat) : Tm m ≤ 2 * m + 1 := by
  rcases Tm_c m with ⟨h1, h2⟩ | ⟨h1, h2⟩ <;> omega
def meas (n : Nat) (E : List K87.Tie) (es : List Ent) : Nat := K87.sumL (es.map fun e => Tm (K87.mostAt n (K87.sub E e.1)))
theorem meas_app (n : Nat) (E : List K87.Tie) (a b : List Ent) : meas n E (a ++ b) = meas n E a + meas n E b := by unfold meas; rw [List.map_append, K87.sumL_append]
theorem meas_one (n : Nat) (E : List K87.Tie) (e : Ent) : meas n E [e] = Tm (K87.mostAt n (K87.sub E e.1)) := by unfold meas; rw [List.map_cons, K87.sumL_cons]; rfl
theorem meas_len (n : Nat) (E : List K87.Tie) : ∀ es : List Ent, es.length ≤ meas n E es
  | [] => Nat.zero_le _
  | e :: es => by
    have h1 := meas_len n E es
    have h2 := meas_app n E [e] es
    rw [meas_one] at h2
    have h3 := Tm_pos (K87.mostAt n (K87.sub E e.1))
    have h4 : meas n E (e :: es) = meas n E ([e] ++ es) := rfl
    rw [List.length_cons]
    omega
structure EntG (n : Nat) (E : List K87.Tie) (e : Ent) : Prop where
  nd : e.1.Nodup
  lt : ∀ t ∈ e.1, t < E.length
  le : e.2 + K87.mostAt n (K87.sub E e.1) ≤ K87.mostAt n E
/-- parts of L -/
structure PG (n : Nat) (E : List K87.Tie) (L : List Nat) (rs : List (List Nat)) : Prop where
  nd : ∀ r ∈ rs, r.Nodup
  lt : ∀ r ∈ rs, ∀ i ∈ r, i < L.length
  sum : K87.sumL (rs.map fun r => K87.mostAt n (K87.sub (K87.sub E L) r)) ≤ K87.mostAt n (K87.sub E L)
  meas : K87.sumL (rs.map fun r => Tm (K87.mostAt n (K87.sub (K87.sub E L) r))) < Tm (K87.mostAt n (K87.sub E L))
theorem PG.none {n : Nat} {E : List K87.Tie} {L : List Nat} : PG n E L [] := ⟨fun _ h => absurd h List.not_mem_nil, fun _ h => absurd h List.not_mem_nil, Nat.zero_le _, Tm_pos _⟩
theorem PG.two {n : Nat} {E : List K87.Tie} {L r0 r1 : List Nat} (h2 : 2 ≤ K87.mostAt n (K87.sub E L)) (R : PartsR n E L r0 r1) : PG n E L [r0, r1] := by
  have e2 : ∀ (f : List Nat → Nat), K87.sumL ([r0, r1].map f) = f r0 + f r1 := fun f => by
    rw [List.map_cons, List.map_cons, K87.sumL_cons, K87.sumL_cons]
    rfl
  refine ⟨fun r h => ?_, fun r h => ?_, by rw [e2]; exact R.sum, by rw [e2]; exact Tm_two h2 R.sum R.le0 R.le1⟩
  · rcases List.mem_cons.mp h with z | z
    · rw [z]; exact R.nd0
    · rw [List.mem_singleton.mp z]; exact R.nd1
  · rcases List.mem_cons.mp h with z | z
    · rw [z]; exact R.lt0
    · rw [List.mem_singleton.mp z]; exact R.lt1
theorem sum_take {f : List Nat → Nat} {rs : List (List Nat)} {j : Nat} {r : List Nat} (h : rs[j]? = some r) : K87.sumL ((rs.take (j + 1)).map f) = K87.sumL ((rs.take j).map f) + f r := by
  rw [List.take_succ, h, List.map_append, K87.sumL_append]
  rfl
theorem sum_take_le (f : List Nat → Nat) (rs : List (List Nat)) (j : Nat) : K87.sumL ((rs.take j).map f) ≤ K87.sumL (rs.map f) := by
  have : K87.sumL (rs.map f) = K87.sumL ((rs.take j).map f) + K87.sumL ((rs.drop j).map f) := by
    rw [← K87.sumL_append, ← List.map_append, List.take_append_drop]
  omega
theorem sum_Tm_len (f : List Nat → Nat) : ∀ rs : List (List Nat), rs.length ≤ K87.sumL (rs.map fun r => Tm (f r))
  | [] => Nat.zero_le _
  | r :: rs => by
    rw [List.map_cons, K87.sumL_cons, List.length_cons]
    have := Tm_pos (f r)
    have := sum_Tm_len f rs
    omega
def hueF (l : List Nat) (g : Nat) (h : K87.Hue) : K87.Hue := fun t => if t ∈ l then some g else h t
section
variable {P : Program} {w : World} {K : PySem.W.Frag} {mg : Str → Option Value} {base : Heap}
abbrev s_by_halves : Stmt := topS 68
abbrev n_by_halves : List Str := ["web", "hueing", "waiting", "ties", "hue", "parted", "tie", "numbers", "part", "number"]
theorem sc_by_halves : FnScope n_by_halves ["web"] (defScope s_by_halves) := ⟨rfl, rfl, rfl, by decide +kernel, rfl, by decide +kernel, by decide +kernel⟩
def HuedV (n : Nat) (E : List K87.Tie) : V → Hp → Prop := fun v H' => ∃ (l : Addr) (h : K87.Hue), v = .ref l ∧ H' l = some (.lst (optL E.length h)) ∧ ∀ t, t < E.length → ∃ c, h t = some c ∧ c < K87.mostAt n E
def sp_by_halves : Sp := fun vs H Q _ => ∃ (a : Addr) (n : Nat) (E : List K87.Tie), vs = [.ref a] ∧ Web H a n E ∧ (∃ s, K87.Two E s) ∧ RetP (HuedV n E) H Q
theorem sp_by_halves_of {H : Hp} {a : Addr} {n : Nat} {E : List K87.Tie} (W : Web H a n E) (two : ∃ s, K87.Two E s) : ∀ H1, Ex H H1 → ∀ (Q : VK) (E' : XK), (∀ v H2, Ex H1 H2 → HuedV n E v H2 → Q v H2) → sp_by_halves [.ref a] H1 Q E' := fun H1 e Q _ q => ⟨a, n, E, rfl, W.ex e, two, q⟩
theorem ok_by_halves (D : DefAt K mg "by_halves" s_by_halves ["web"]) (T : Txt mg) (A_sides_of : At P w K mg base 5 "sides_of" ["web"] sp_sides_of) (A_only : At P w K mg base 3 "only" ["web", "ties"] sp_only) (A_most_at : At P w K mg base 2 "most_at" ["web"] sp_most_at) (A_parts_of : At P w K mg base 7 "parts_of" ["web", "ties"] sp_parts_of) :
    At P w K mg base 8 "by_halves" ["web"] sp_by_halves := D.at fun f fd F => by
  refine F.ok sc_by_halves (fun vs H Q E h => ?_) (fun cdv A outer s H vs Q E hr h => ?_)
  · obtain ⟨a, n, E, rfl, _⟩ := h
    rfl
  · obtain ⟨a, n, E, rfl, W, two, k⟩ := h
    refine ⟨_, (pss_cons (ps_expr (pe_at A_sides_of (hr.mono (by decide)) (pa_cons (pv 0) pa_nil)))
      (pss_cons (ps_set (i := 1) sc_by_halves.nd rfl (Or.inl rfl) (pe_op op_rep (pe_lst (pa_cons pe_non pa_nil)) (pe_callB call_len_seq (by rfl) T.len PySem.boot_len (pa_cons (pe_ix ix_tup (pv 0) pe_int (fun _ _ => rfl)) pa_nil))))
      (pss_cons (ps_set (i := 2) sc_by_halves.nd rfl (Or.inl rfl) (pe_lst (pa_cons (pe_tup (pa_cons (pe_listRg rfl rfl T.list (prg_1 rfl T.range (pe_callB call_len_seq (by rfl) T.len PySem.boot_len (pa_cons (pe_ix ix_tup (pv 0) pe_int (fun _ _ => rfl)) pa_nil)))) (pa_cons pe_int pa_nil))) pa_nil)))
      (pss_cons (ps_while PassesOwn.never (pt_cmpR op_gt (pe_callB call_len_seq (by rfl) T.len PySem.boot_len (pa_cons (pv 2) pa_nil)) pe_int (nomark _)) (pss_cons (ps_asg (pe_bm0 PySem.F.plainAttrs_list PySem.F.slot_list_pop PySem.F.type_list_pop mt_pop (pv 2)) (pg_tup rfl (pgs_cons (pg_name (i := 3) sc_by_halves.nd rfl (Or.inr rfl)) (pgs_cons (pg_name (i := 4) sc_by_halves.nd rfl (Or.inl rfl)) pgs_nil))))
      (pss_cons (ps_set (i := 5) sc_by_halves.nd rfl (Or.inl rfl) (pe_ifExp (pt_cmpR op_lt (pe_at A_most_at (hr.mono (by decide)) (pa_cons (pe_at A_only (hr.mono (by decide)) (pa_cons (pv 0) (pa_cons (pv 3) pa_nil))) pa_nil)) pe_int (nomark _)) (pe_lst pa_nil) (pe_at A_parts_of (hr.mono (by decide)) (pa_cons (pv 0) (pa_cons (pv 3) pa_nil)))))
      (pss_cons (ps_for PassesOwn.never rfl (pi_list (pv 3)) (pg_name (i := 6) sc_by_halves.nd rfl (Or.inl rfl)) (pss_one (ps_asg (pv 4) (pg_sub (pv 1) (pv 6) set_list))))
      (pss_one (ps_for PassesOwn.never rfl (pi_list (pv 5)) (pg_name (i := 7) sc_by_halves.nd rfl (Or.inl rfl)) (pss_cons (ps_setLc (i := 8) (own := [("number", 9)]) rfl sc_by_halves.nd rfl rfl (sw_true rfl rfl rfl (by decide +kernel)) (pi_list (pv 7)) (blkOk_by (own := [("number", 9)]) (N := n_by_halves) (sc := defScope s_by_halves) (by decide +kernel)) (fun _ _ _ _ _ => (pg_name (i := 9) sc_by_halves.nd rfl (Or.inl rfl))) (fun _ _ _ _ _ => pts_nil) (fun _ _ _ _ _ => (pe_ix (r := rIxL K) ix_list (pv 3) (pv 9) (fun _ _ => rfl))))
      (pss_cons (ps_expr (pe_bm PySem.F.plainAttrs_list PySem.F.slot_list_append PySem.F.type_list_append mt_append (pv 2) (pa_cons (pe_tup (pa_cons (pv 8) (pa_cons (pv 4) pa_nil))) pa_nil)))
      (pss_one (ps_aug (i := 4) sc_by_halves.nd rfl (Or.inl rfl) (pe_at A_most_at (hr.mono (by decide)) (pa_cons (pe_at A_only (hr.mono (by decide)) (pa_cons (pv 0) (pa_cons (pv 8) pa_nil))) pa_nil)) ip_add))))))))))
      (pss_one (ps_ret (pv 1))))))), ?_⟩
    have hln := W.ln
    have hle := W.le
    have hml := K87.most_le_len n E
    obtain ⟨b, ts, CW⟩ := W.at_
    refine q_dropP (ep_call (P := fun v H2 => ∃ l, v = .ref l ∧ Sided n E l H2) (ea_cons (ev_var rfl) ea_nil) (sp_sides_of_of W two)) fun v H1 e1 hv => ?_
    obtain ⟨sd, two'⟩ := two
    refine q_asgL (xs := optL E.length h0) (el_is (el_rep (n := E.length) (x := .non) (el_lst (ea_cons ev_c ea_nil) (show 1 ≤ 100000 by decide)) (fun H3 e3 => ev_m (CW.ex (e1.trans e3)) (ev_var rfl)) (by omega)) (by
      apply List.ext_getElem?
      intro i
      by_cases hi : i < E.length
      · rw [optL_get hi, List.getElem?_replicate, if_pos hi]; rfl
      · rw [List.getElem?_eq_none (by rw [List.length_replicate]; omega), List.getElem?_eq_none (by rw [optL_len]; omega)])) fun hl H2 hhl e2 h2 => ?_
    have ex2 := e1.trans e2
    have hhl0 := fresh_back e1 hhl
    -- the first entry
    refine q_asgP (ep_lstTup (el_rg (ev_m (CW.ex ex2) (ev_var rfl)) (by omega))) fun v H3 e3 hv => ?_
    obtain ⟨wl, q0, tl0, rfl, hwl, htl0, hw3, hq3, ht3, ntw⟩ := hv
    have ex3 := ex2.trans e3
    have hwl0 := fresh_back ex2 hwl
    have nhw : hl ≠ wl := ne_of_none h2 hwl
    have sub0 : K87.sub E (List.range E.length) = E := K87.sub_range
    have bad0 : ∀ b ∈ [hl, wl], H b = none := fun b hb => by
      rcases List.mem_cons.mp hb with z | z
      · rw [z]; exact hhl0
      · rw [List.mem_singleton.mp z]; exact hwl0
    refine q_while (fun m σ' H' => ∃ (as : List Addr) (es : List Ent) (hu : K87.Hue) (x3 x4 x5 x6 x7 x8 : Option V), m = meas n E es ∧ m ≤ 1000 ∧ Ex H H' ∧ H' wl = some (.lst (as.map V.ref)) ∧ Ents H' [hl, wl] as es ∧ (∀ e ∈ es, EntG n E e) ∧ H' hl = some (.lst (optL E.length hu)) ∧ (∀ t, t < E.length → (∃ c, hu t = some c ∧ c < K87.mostAt n E) ∨ ∃ e ∈ es, t ∈ e.1) ∧
        σ' = [some (.ref a), some (.ref hl), some (.ref wl), x3, x4, x5, x6, x7, x8, none]) _
      ⟨[q0], [(List.range E.length, 0)], h0, _, _, _, _, _, _, rfl, by
        rw [meas_one]
        have := Tm_le (K87.mostAt n (K87.sub E (List.range E.length)))
        rw [sub0] at this ⊢
        omega, ex3, hw3, Ents.snoc (as := []) (es := []) ⟨rfl, fun i q e z => by simp at z⟩ hq3 ht3 (fun z => by
          rcases List.mem_cons.mp z with z | z
          · rw [z] at htl0
            rw [htl0] at h2
            cases h2
          · exact ntw (List.mem_singleton.mp z)), fun e he => by
        rw [List.mem_singleton.mp he]
        exact ⟨List.nodup_range, fun t ht => List.mem_range.mp ht, by rw [sub0]; omega⟩, e3 _ _ h2, fun t ht => .inr ⟨_, List.mem_singleton_self _, List.mem_range.mpr ht⟩, rfl⟩ fun m σ' H' hw => ?_
    obtain ⟨as, es, hu, x3, x4, x5, x6, x7, x8, rfl, hm, p1, w1, X1, G1, h1, cov, rfl⟩ := hw
    have xl := X1.len
    refine ⟨decide (0 < (as.map V.ref).length), ev_len0 (ev_var rfl) w1, fun hb H4 e4 => ?_, fun hb H4 e4 => ?_⟩
    · rw [decide_eq_true_eq, List.length_map] at hb
      obtain ⟨as', q, rfl⟩ : ∃ as' q, as = as' ++ [q] := ⟨as.dropLast, as.getLast (List.length_pos_iff.mp hb), (List.dropLast_concat_getLast _).symm⟩
      obtain ⟨es', ent, rfl⟩ : ∃ es' e, es = es' ++ [e] := ⟨es.dropLast, es.getLast (List.length_pos_iff.mp (by omega)), (List.dropLast_concat_getLast _).symm⟩
      obtain ⟨L, g⟩ := ent
      obtain ⟨X2, tl, hq, htl, ntb⟩ := X1.init
      have GE := G1 (L, g) (List.mem_append_right _ (List.mem_singleton_self _))
      have hLl : L.length ≤ 90 := by
        have : L.length ≤ E.length := K87.len_le_range GE.nd GE.lt
        omega
      have w4 := e4 _ _ w1
      rw [List.map_append] at w4
      refine ⟨_, fun _ _ z => z, q_pop (x := .ref q) (xs := as'.map V.ref) w4 (ev_var rfl) fun H5 e5 => ?_⟩
      have ntl1 : tl ≠ hl := fun z => ntb (by rw [z]; exact List.mem_cons_self)
      have ntl2 : tl ≠ wl := fun z => ntb (by rw [z]; exact List.mem_cons_of_mem _ (List.mem_singleton_self _))
      have ex5 := e4.trans e5
      have F5 : FrS [wl] H' (upd H5 wl (.lst (as'.map V.ref))) := (FrS.of ex5).inn (List.mem_singleton_self _)
      have m5 : Ex H (upd H5 wl (.lst (as'.map V.ref))) := Ex.mut (p1.trans ex5) hwl0
      have w5 : (upd H5 wl (.lst (as'.map V.ref))) wl = some (.lst (as'.map V.ref)) := upd_same
      have X5 : Ents (upd H5 wl (.lst (as'.map V.ref))) [hl, wl] as' es' := X2.fr F5 fun b hb => by
        rw [List.mem_singleton.mp hb]
        exact ⟨List.mem_cons_of_mem _ (List.mem_singleton_self _), _, w1⟩
      have q5 := F5 q _ (fun z => by rw [List.mem_singleton.mp z, w1] at hq; cases hq) hq
      have t5 := F5 tl _ (fun z => ntl2 (List.mem_singleton.mp z)) htl
      have h5 := F5 hl _ (fun z => nhw (List.mem_singleton.mp z)) h1
      generalize upd H5 wl (.lst (as'.map V.ref)) = G5 at m5 w5 X5 q5 t5 h5 ⊢
      refine g_pair q5 ?_
      -- the parts
      refine q_asgP (P := fun v H' => ∃ (pl : Addr) (bs : List Addr) (rs : List (List Nat)), v = .ref pl ∧ G5 pl = none ∧ (∀ b ∈ bs, G5 b = none) ∧ H' pl = some (.lst (bs.map V.ref)) ∧ bs.length = rs.length ∧ (∀ (i : Nat) (b : Addr) (r : List Nat), bs[i]? = some b → rs[i]? = some r → H' b = some (.lst (natL r))) ∧ PG n E L rs)
        (ep_if (b := decide (K87.mostAt n (K87.sub E L) < 2)) (et_test (ev_is (ev_op (ev_callP (ep_call (P := fun v H2 => ∃ a', v = .ref a' ∧ Web H2 a' n (K87.sub E L)) (ea_cons (ev_var rfl) (ea_cons (ev_var rfl) ea_nil)) (sp_only_of (W.ex m5) t5 GE.lt hLl)) fun v H6 e6 hv => by
          obtain ⟨a', rfl, W6⟩ := hv
          exact ev_call (ea_cons ev_c ea_nil) (sv_most_at W6)) ev_c rv_I0) (congrArg V.bl (decide_eq_decide.mpr (by omega)))))
          (fun _ => (EvL.p (el_lst ea_nil (show 0 ≤ 100000 by decide))).imp fun v H6 e6 hv => by
            obtain ⟨p, rfl, hp, hp6⟩ := hv
            exact ⟨p, [], [], rfl, hp, fun b hb => absurd hb List.not_mem_nil, hp6, rfl, fun i b r z => by simp at z, .none⟩)
          (fun hb2 => (ep_call (P := PartsV G5 n E L) (ea_cons (ev_var rfl) (ea_cons (ev_var rfl) ea_nil)) fun H6 e6 Q _ q => ⟨a, tl, n, E, L, rfl, (W.ex m5).ex e6, ⟨sd, two'⟩, e6 _ _ t5, GE.lt, hLl, by have := of_decide_eq_false hb2; omega, fun v H7 e7 ⟨l, a0, a1, r0, r1, z0, z1, z2, z3, z4⟩ => q v H7 e7 ⟨l, a0, a1, r0, r1, z0, fresh_back e6 z1, fresh_back e6 z2, fresh_back e6 z3, z4⟩⟩).imp fun v H6 e6 hv => by
            obtain ⟨l, a0, a1, r0, r1, rfl, f0, f1, f2, g1, g2, g3, R⟩ := hv
            refine ⟨l, [a0, a1], [r0, r1], rfl, f0, fun b hb => ?_, g1, rfl, fun i b r hb hr => ?_, .two (by have := of_decide_eq_false hb2; omega) R⟩
            · rcases List.mem_cons.mp hb with z | z
              · rw [z]; exact f1
              · rw [List.mem_singleton.mp z]; exact f2
            · match i, hb, hr with
              | 0, hb, hr => cases hb; cases hr; exact g2
              | 1, hb, hr => cases hb; cases hr; exact g3
              | i + 2, hb, hr => simp at hb)) fun v H6 e6 hv => ?_
      obtain ⟨pl, bs, rs, rfl, hpl, hbs, pl6, bl, hb6, PGd⟩ := hv
      have m6 := m5.trans e6
      have w6 := e6 _ _ w5
      have h6 := e6 _ _ h5
      have t6 := e6 _ _ t5
      have X6 : Ents H6 [hl, wl] as' es' := X5.fr (FrS.of e6 (S := [])) fun b hb => absurd hb List.not_mem_nil
      have npl : ∀ {c : Addr} {o : HO}, G5 c = some o → c ≠ pl := fun hc => ne_of_none hc hpl
      -- hues
      refine q_forLn (ev_var rfl) (sq_of t6) (fun i σ' H' => ∃ x6, FrS [hl] H6 H' ∧ H' hl = some (.lst (optL E.length (hueF (L.take i) g hu))) ∧ σ' = [some (.ref a), some (.ref hl), some (.ref wl), some (.ref tl), some (.int ((g : Nat) : Int)), some (.ref pl), x6, x7, x8, none])
        (fun H7 e7 => ⟨_, FrS.of e7, by rw [e7 _ _ h6]; congr 2, rfl⟩) (fun i σ' H' _ p => by obtain ⟨_, p2, _⟩ := p; exact sq_of (p2 _ _ (fun z => ntl1 (List.mem_singleton.mp z)) t6)) (fun i x σ' H' hx p => ?_) fun σ' H' p => ?_
      · obtain ⟨x6, p2, p3, rfl⟩ := p
        obtain ⟨hi, rfl⟩ := natL_of hx
        have htk : L.take (i + 1) = L.take i ++ [L.getD i 0] := by
          rw [List.take_succ, List.getElem?_eq_getElem hi, List.getD_eq_getElem?_getD, List.getElem?_eq_getElem hi]
          rfl
        have htl' := GE.lt _ (getD_mem' hi)
        generalize L.getD i 0 = t at htk htl' ⊢
        refine s_setL (j := t) p3 (ev_var rfl) (ev_var rfl) (ev_var rfl) (by rw [optL_len]; exact htl') fun H7 e7 => ⟨_, (p2.ex e7).inn (List.mem_singleton_self _), ?_, rfl⟩
        rw [upd_same, show V.int ((g : Nat) : Int) = oV (some g) from rfl, optL_set, htk]
        congr 2
        refine optL_congr fun u _ => ?_
        unfold K87.setf hueF
        by_cases hut : u = t
        · rw [if_pos hut, if_pos (by rw [hut]; exact List.mem_append_right _ (List.mem_singleton_self _))]
        · rw [if_neg hut]
          by_cases hum : u ∈ L.take i
          · rw [if_pos hum, if_pos (List.mem_append_left _ hum)]
          · rw [if_neg hum, if_neg (fun z => (List.mem_append.mp z).elim hum fun z => hut (List.mem_singleton.mp z))]
      · obtain ⟨x6, p2, p3, rfl⟩ := p
        rw [natL_len, List.take_length] at p3
        have p7 : Ex H H' := Ex.fr m6 p2 fun b hb => by rw [List.mem_singleton.mp hb]; exact hhl0
        have keep : ∀ {c : Addr} {o : HO}, c ≠ hl → H6 c = some o → H' c = some o := fun hc h => p2 _ _ (fun z => hc (List.mem_singleton.mp z)) h
        have w7 := keep (Ne.symm nhw) w6
        have t7 := keep ntl1 t6
        have pl7 := keep (Ne.symm (npl h5)) pl6
        have b7 : ∀ (i : Nat) (b : Addr) (r : List Nat), bs[i]? = some b → rs[i]? = some r → H' b = some (.lst (natL r)) ∧ b ≠ wl := fun i b r h7 h8 => by
          have := hbs b (List.mem_of_getElem? h7)
          exact ⟨keep (Ne.symm (ne_of_none h5 this)) (hb6 i b r h7 h8), Ne.symm (ne_of_none w5 this)⟩
        have X7 : Ents H' [hl, wl] as' es' := X6.fr p2 fun b hb => by
          rw [List.mem_singleton.mp hb]
          exact ⟨List.mem_cons_self, _, h6⟩
        have cov7 : ∀ t, t < E.length → (∃ c, hueF L g hu t = some c ∧ c < K87.mostAt n E) ∨ ∃ e ∈ es', t ∈ e.1 := fun t ht => by
          by_cases htL : t ∈ L
          · refine .inl ⟨g, by unfold hueF; rw [if_pos htL], ?_⟩
            have h8 := GE.le
            have h9 := K87.most_pos_of (K87.sub_WOk W.ok GE.lt) (by rw [K87.sub_length]; exact List.length_pos_of_mem htL)
            have h8' : g + K87.mostAt n (K87.sub E L) ≤ K87.mostAt n E := h8
            have h9' : 0 < K87.mostAt n (K87.sub E L) := h9
            omega
          · have hF : hueF L g hu t = hu t := by unfold hueF; rw [if_neg htL]
            rw [hF]
            rcases cov t ht with z | ⟨e, he, hte⟩
            · exact .inl z
            · rcases List.mem_append.mp he with z | z
              · exact .inr ⟨e, z, hte⟩
              · rw [List.mem_singleton.mp z] at hte
                exact absurd hte htL
        have wlen : as'.length + rs.length ≤ 5000 := by
          have h8 := meas_len n E (es' ++ [(L, g)])
          have h9 := sum_Tm_len (fun r => K87.mostAt n (K87.sub (K87.sub E L) r)) rs
          have h10 := PGd.meas
          have h11 := Tm_le (K87.mostAt n (K87.sub E L))
          have h12 : K87.mostAt n (K87.sub E L) ≤ L.length := by
            have := K87.most_le_len n (K87.sub E L)
            rw [K87.sub_length] at this
            exact this
          have h13 := X2.len
          rw [List.length_append] at h8
          omega
        have mH : meas n E (es' ++ [(L, g)]) = meas n E es' + Tm (K87.mostAt n (K87.sub E L)) := by rw [meas_app, meas_one]
        generalize hueF L g hu = hu7 at p3 cov7
        refine s_forLn (ev_var rfl) (sq_of pl7) (fun j σ' H8 => ∃ (cs : List Addr) (ps : List Ent) (x7 x8 : Option V), FrS [wl] H' H8 ∧ cs.length = j ∧ H8 wl = some (.lst ((as' ++ cs).map V.ref)) ∧ Ents H8 [hl, wl] (as' ++ cs) (es' ++ ps) ∧ (∀ e ∈ ps, EntG n E e) ∧ meas n E ps = K87.sumL ((rs.take j).map fun r => Tm (K87.mostAt n (K87.sub (K87.sub E L) r))) ∧
            σ' = [some (.ref a), some (.ref hl), some (.ref wl), some (.ref tl), some (.int ((g + K87.sumL ((rs.take j).map fun r => K87.mostAt n (K87.sub (K87.sub E L) r)) : Nat) : Int)), some (.ref pl), x6, x7, x8, none])
          (fun H8 e8 => ⟨[], [], _, _, FrS.of e8, rfl, by rw [List.append_nil]; exact e8 _ _ w7, by rw [List.append_nil, List.append_nil]; exact X7.fr (FrS.of e8 (S := [])) fun b hb => absurd hb List.not_mem_nil, fun e he => absurd he List.not_mem_nil, rfl, rfl⟩) (fun j σ' H8 _ p => ?_) (fun j x σ' H8 hx p => ?_) fun σ' H8 p => ?_
        · obtain ⟨cs, ps, x7, x8, p8, _⟩ := p
          exact sq_of (p8 _ _ (fun z => npl w5 (List.mem_singleton.mp z).symm) pl7)
        · obtain ⟨cs, ps, x7', x8', p8, cl, w8, X8, G8, mp, rfl⟩ := p
          have hj : j < bs.length := by rw [← List.length_map (f := V.ref)]; exact (List.getElem?_eq_some_iff.mp hx).1
          obtain ⟨c, hc⟩ : ∃ c, bs[j]? = some c := ⟨_, List.getElem?_eq_getElem hj⟩
          rw [List.getElem?_map, hc] at hx
          cases hx
          obtain ⟨r, hrj⟩ : ∃ r, rs[j]? = some r := ⟨rs[j], List.getElem?_eq_getElem (by omega)⟩
          have hrm := List.mem_of_getElem? hrj
          obtain ⟨c7, ncw⟩ := b7 j c r hc hrj
          have c8 := p8 _ _ (fun z => ncw (List.mem_singleton.mp z)) c7
          have t8 := p8 _ _ (fun z => ntl2 (List.mem_singleton.mp z)) t7
          have rlt := PGd.lt r hrm
          have rnd := PGd.nd r hrm
          have rlen : r.length ≤ L.length := K87.len_le_range rnd rlt
          have ex8 : Ex H H8 := Ex.fr p7 p8 fun b hb => by rw [List.mem_singleton.mp hb]; exact hwl0
          refine q_asgL (xs := natL (r.map fun i => L.getD i 0)) (el_is (el_lcN (l := r) (fun _ => true) (fun i => .int ((L.getD i 0 : Nat) : Int)) (ev_var rfl) c8 (by omega) (fun _ => rfl) (fun i H9 e9 hi => et_yes) (fun i H9 e9 hi _ => ev_op (ev_var rfl) (ev_var rfl) (rv_ixL (sq_of (e9 _ _ t8)) (atI_nat (natL_get (rlt i hi)))))) (by
            rw [List.filter_eq_self.mpr fun _ _ => rfl]
            unfold natL
            rw [List.map_map]
            rfl)) fun pa H9 hpa e9 h9 => ?_
          have ss := K87.sub_sub (E := E) rlt
          have plt := all_getD GE.lt rlt
          have pnd := nodup_getD GE.nd rnd rlt
          have st := sum_take (f := fun r => K87.mostAt n (K87.sub (K87.sub E L) r)) hrj
          have sm := sum_take (f := fun r => Tm (K87.mostAt n (K87.sub (K87.sub E L) r))) hrj
          have sle := sum_take_le (fun r => K87.mostAt n (K87.sub (K87.sub E L) r)) rs (j + 1)
          have npa : pa ∉ [hl, wl] := fun z => by
            rcases List.mem_cons.mp z with z | z
            · have := p8 _ _ (fun z => nhw (List.mem_singleton.mp z)) p3
              rw [z, this] at hpa
              cases hpa
            · rw [List.mem_singleton.mp z, w8] at hpa
              cases hpa
          have GN : EntG n E (r.map fun i => L.getD i 0, g + K87.sumL ((rs.take j).map fun r => K87.mostAt n (K87.sub (K87.sub E L) r))) := ⟨pnd, plt, by
            show g + _ + K87.mostAt n (K87.sub E (r.map fun i => L.getD i 0)) ≤ _
            rw [← ss]
            have h10 := PGd.sum
            have h11 : g + K87.mostAt n (K87.sub E L) ≤ K87.mostAt n E := GE.le
            have st' : K87.sumL ((rs.take (j + 1)).map fun r => K87.mostAt n (K87.sub (K87.sub E L) r)) = K87.sumL ((rs.take j).map fun r => K87.mostAt n (K87.sub (K87.sub E L) r)) + K87.mostAt n (K87.sub (K87.sub E L) r) := st
            have sle' : K87.sumL ((rs.take (j + 1)).map fun r => K87.mostAt n (K87.sub (K87.sub E L) r)) ≤ K87.sumL (rs.map fun r => K87.mostAt n (K87.sub (K87.sub E L) r)) := sle
            omega⟩
          refine q_appU (e9 _ _ w8) (ev_var rfl) (eu_tup2 (ev_var rfl) (ev_var rfl)) (by rw [List.length_map, List.length_append]; omega) fun q9 H10 hq9 e10 h10 => ?_
          have F10 : FrS [wl] H8 (upd H10 wl (.lst ((as' ++ cs).map V.ref ++ [.ref q9]))) := (FrS.of (e9.trans e10)).inn (List.mem_singleton_self _)
          have w10 : (upd H10 wl (.lst ((as' ++ cs).map V.ref ++ [.ref q9]))) wl = some (.lst ((as' ++ (cs ++ [q9])).map V.ref)) := by
            rw [upd_same, ← List.append_assoc]
            simp only [List.map_append, List.map_cons, List.map_nil]
          have npw : pa ≠ wl := fun z => npa (by rw [z]; exact List.mem_cons_of_mem _ (List.mem_singleton_self _))
          have nqw : q9 ≠ wl := fun z => by rw [z, e9 _ _ w8] at hq9; cases hq9
          have X10 : Ents (upd H10 wl (.lst ((as' ++ cs).map V.ref ++ [.ref q9]))) [hl, wl] (as' ++ (cs ++ [q9])) (es' ++ (ps ++ [(r.map fun i => L.getD i 0, g + K87.sumL ((rs.take j).map fun r => K87.mostAt n (K87.sub (K87.sub E L) r)))])) := by
            rw [← List.append_assoc, ← List.append_assoc]
            exact (X8.fr F10 fun b hb => by
              rw [List.mem_singleton.mp hb]
              exact ⟨List.mem_cons_of_mem _ (List.mem_singleton_self _), _, w8⟩).snoc (tl := pa) (by rw [upd_ne nqw]; exact h10) (by rw [upd_ne npw]; exact e10 _ _ h9) npa
          have p10 : FrS [wl] H' (upd H10 wl (.lst ((as' ++ cs).map V.ref ++ [.ref q9]))) := p8.trans F10
          have ex10 : Ex H (upd H10 wl (.lst ((as' ++ cs).map V.ref ++ [.ref q9]))) := Ex.mut ((ex8.trans e9).trans e10) hwl0
          have pa10 : (upd H10 wl (.lst ((as' ++ cs).map V.ref ++ [.ref q9]))) pa = some (.lst (natL (r.map fun i => L.getD i 0))) := by rw [upd_ne npw]; exact e10 _ _ h9
          generalize upd H10 wl (.lst ((as' ++ cs).map V.ref ++ [.ref q9])) = G10 at F10 w10 X10 p10 ex10 pa10 ⊢
          refine s_aug (f := fun i j => i + j) (a := ((g + K87.sumL ((rs.take j).map fun r => K87.mostAt n (K87.sub (K87.sub E L) r)) : Nat) : Int)) (b := (K87.mostAt n (K87.sub (K87.sub E L) r) : Nat)) rfl (ev_callP (ep_call (P := fun v H2 => ∃ a', v = .ref a' ∧ Web H2 a' n (K87.sub E (r.map fun i => L.getD i 0))) (ea_cons (ev_var rfl) (ea_cons (ev_var rfl) ea_nil)) (sp_only_of (W.ex ex10) pa10 plt (by rw [List.length_map]; omega))) fun v H11 e11 hv => by
            obtain ⟨a', rfl, W11⟩ := hv
            rw [ss]
            exact ev_call (ea_cons ev_c ea_nil) (sv_most_at W11)) fun H11 e11 => ?_
          refine ⟨cs ++ [q9], ps ++ [(r.map fun i => L.getD i 0, g + K87.sumL ((rs.take j).map fun r => K87.mostAt n (K87.sub (K87.sub E L) r)))], some (.ref c), some (.ref pa), p10.ex e11, by rw [List.length_append, cl]; rfl, e11 _ _ w10, X10.fr (FrS.of e11 (S := [])) fun b hb => absurd hb List.not_mem_nil, fun e he => ?_, ?_, ?_⟩
          · rcases List.mem_append.mp he with z | z
            · exact G8 e z
            · rw [List.mem_singleton.mp z]
              exact GN
          · rw [meas_app, meas_one, mp, sm]
            show _ + Tm (K87.mostAt n (K87.sub E (r.map fun i => L.getD i 0))) = _
            rw [← ss]
          · rw [st, ← Nat.add_assoc]
            rfl
        · obtain ⟨cs, ps, x7', x8', p8, cl, w8, X8, G8, mp, rfl⟩ := p
          rw [List.length_map, bl, List.take_length] at mp
          have hms := PGd.meas
          have ma := meas_app n E es' ps
          refine ⟨meas n E (es' ++ ps), by omega, as' ++ cs, es' ++ ps, hu7, _, _, _, _, _, _, rfl, by omega, Ex.fr p7 p8 fun b hb => by rw [List.mem_singleton.mp hb]; exact hwl0, w8, X8, fun e he => ?_, p8 _ _ (fun z => nhw (List.mem_singleton.mp z)) p3, fun t ht => (cov7 t ht).imp id fun ⟨e, h9, h10⟩ => ⟨e, List.mem_append_left _ h9, h10⟩, rfl⟩
          rcases List.mem_append.mp he with z | z
          · exact G1 e (List.mem_append_left _ z)
          · exact G8 e z
    · rw [decide_eq_false_iff_not, List.length_map] at hb
      have hes : es = [] := List.eq_nil_of_length_eq_zero (by omega)
      refine s_ret (ev_var rfl) fun H5 e5 => k _ H5 ((p1.trans e4).trans e5) ⟨hl, hu, rfl, e5 _ _ (e4 _ _ h1), fun t ht => ?_⟩
      rcases cov t ht with z | ⟨e, he, _⟩
      · exact z
      · rw [hes] at he
        exact absurd he List.not_mem_nil
end
end K87W
/-! the law: the tape, webs drawn -/
namespace K87W
open PySem PySem.Spec PyProof.Rows L2 Evl K87X
/-! data of lists -/
theorem shaped_of {ds : List PyData} (h : ∀ d ∈ ds, d.canLay0 = true ∧ d.depth ≤ 8) : SeqAt.shaped (.list ds) = true ∧ SeqAt.shaped (.tuple ds) = true := by
  have h1 : PyData.canLayAll0 ds = true ∧ PyData.depthAll ds ≤ 8 := by
    induction ds with
    | nil => exact ⟨by simp [PyData.canLayAll0], by simp [PyData.depthAll]⟩
    | cons d ds ih =>
      obtain ⟨a, b⟩ := ih fun x hx => h x (List.mem_cons_of_mem _ hx)
      obtain ⟨c, e⟩ := h d List.mem_cons_self
      exact ⟨by simp [PyData.canLayAll0, a, c], by simp only [PyData.depthAll]; omega⟩
  obtain ⟨a, b⟩ := h1
  unfold SeqAt.shaped
  refine ⟨Bool.and_eq_true_iff.mpr ⟨by simp only [PyData.canLay0]; exact a, decide_eq_true ?_⟩, Bool.and_eq_true_iff.mpr ⟨by simp only [PyData.canLay0]; exact a, decide_eq_true ?_⟩⟩
  · simp only [PyData.depth]; omega
  · simp only [PyData.depth]; omega
theorem dp_len {K : PySem.W.Frag} {H : Hp} : ∀ {xs : List V} {ds : List PyData}, DpAll K H xs ds → xs.length = ds.length
  | _, _, .nil => rfl
  | _, _, .cons _ h => by rw [List.length_cons, List.length_cons, dp_len h]
theorem eqv_nilL {ds : List PyData} : PyData.eqv (.list ds) (.list []) = ds.isEmpty := by cases ds <;> simp [PyData.eqv, PyData.eqvAll]
theorem eqv_nilT {ds : List PyData} : PyData.eqv (.tuple ds) (.tuple []) = ds.isEmpty := by cases ds <;> simp [PyData.eqv, PyData.eqvAll]
/-- items that compare as plain data do -/
def Dat (K : PySem.W.Frag) (H : Hp) (xs : List V) : Prop := ∀ H1, Ex H H1 → ∃ ds, DpAll K H1 xs ds ∧ ∀ d ∈ ds, d.canLay0 = true ∧ d.depth ≤ 8
theorem dat_nat {K : PySem.W.Frag} {H : Hp} (l : List Nat) : Dat K H (natL l) := fun H1 _ => by
  induction l with
  | nil => exact ⟨[], .nil, fun d h => absurd h List.not_mem_nil⟩
  | cons a l ih =>
    obtain ⟨ds, h1, h2⟩ := ih
    refine ⟨.int (a : Int) :: ds, .cons (.int _) h1, fun d hd => ?_⟩
    rcases List.mem_cons.mp hd with z | z
    · rw [z]; exact ⟨by simp [PyData.canLay0], by simp [PyData.depth]⟩
    · exact h2 d z
theorem dat_pairs {K : PySem.W.Frag} {H : Hp} {as : List Addr} (h : ∀ q ∈ as, ∃ i j : Int, H q = some (.tup [.int i, .int j])) : Dat K H (as.map V.ref) := fun H1 e => by
  induction as with
  | nil => exact ⟨[], .nil, fun d h => absurd h List.not_mem_nil⟩
  | cons a l ih =>
    obtain ⟨ds, h1, h2⟩ := ih fun q hq => h q (List.mem_cons_of_mem _ hq)
    obtain ⟨i, j, hq⟩ := h a List.mem_cons_self
    refine ⟨.tuple [.int i, .int j] :: ds, .cons (.tup (st_of (e _ _ hq)) (.cons (.int _) (.cons (.int _) .nil))) h1, fun d hd => ?_⟩
    rcases List.mem_cons.mp hd with z | z
    · rw [z]; exact ⟨by simp [PyData.canLay0, PyData.canLayAll0], by simp [PyData.depth, PyData.depthAll]⟩
    · exact h2 d z
theorem isEmpty_len {α β : Type} {a : List α} {b : List β} (h : a.length = b.length) : a.isEmpty = b.isEmpty := by cases a <;> cases b <;> simp_all
section
variable {K : PySem.W.Frag} {σ : L2.St} {H H' : Hp} {ta te : TE} {a : Addr} {xs : List V}
theorem et_neNil (h : Ev ta σ H (.ref a)) (hx : H a = some (.lst xs)) (hd : Dat K H xs) : EvT (tTest (tOp (rNeD K) ta (tLst tNil))) σ H (!xs.isEmpty) := fun H1 e Q q =>
  h H1 e _ fun H2 e2 => ⟨show 0 ≤ sizeLine by decide, fun p hp => by
    have e3 := Ex.new (o := .lst []) hp
    obtain ⟨ds, h1, h2⟩ := hd _ ((e.trans e2).trans e3)
    refine ⟨.list ds, .list [], .lst (sq_of (e3 _ _ (e2 _ _ (e _ _ hx)))) h1, .lst (sq_of upd_same) .nil, (shaped_of h2).1, (shaped_of (ds := []) fun d h => absurd h List.not_mem_nil).1, _, rfl, ?_⟩
    rw [eqv_nilL, ← isEmpty_len (dp_len h1)]
    exact q _ (e2.trans e3)⟩
theorem ev_eqNil (h : Ev ta σ H (.ref a)) (hx : H a = some (.lst xs)) (hd : Dat K H xs) : Ev (tOp (rEqD K) ta (tLst tNil)) σ H (.bl xs.isEmpty) := fun H1 e Q q =>
  h H1 e _ fun H2 e2 => ⟨show 0 ≤ sizeLine by decide, fun p hp => by
    have e3 := Ex.new (o := .lst []) hp
    obtain ⟨ds, h1, h2⟩ := hd _ ((e.trans e2).trans e3)
    refine ⟨.list ds, .list [], .lst (sq_of (e3 _ _ (e2 _ _ (e _ _ hx)))) h1, .lst (sq_of upd_same) .nil, (shaped_of h2).1, (shaped_of (ds := []) fun d h => absurd h List.not_mem_nil).1, ?_⟩
    rw [eqv_nilL, ← isEmpty_len (dp_len h1)]
    exact q _ (e2.trans e3)⟩
theorem et_eqNilT (h : Ev ta σ H (.ref a)) (hx : H a = some (.tup xs)) (hd : Dat K H xs) : EvT (tTest (tOp (rEqD K) ta (tTup tNil))) σ H xs.isEmpty := fun H1 e Q q =>
  h H1 e _ fun H2 e2 => ⟨show 0 ≤ sizeLine by decide, fun p hp => by
    have e3 := Ex.new (o := .tup []) hp
    obtain ⟨ds, h1, h2⟩ := hd _ ((e.trans e2).trans e3)
    refine ⟨.tuple ds, .tuple [], .tup (st_of (e3 _ _ (e2 _ _ (e _ _ hx)))) h1, .tup (st_of upd_same) .nil, (shaped_of h2).2, (shaped_of (ds := []) fun d h => absurd h List.not_mem_nil).2, _, rfl, ?_⟩
    rw [eqv_nilT, ← isEmpty_len (dp_len h1)]
    exact q _ (e2.trans e3)⟩
end
/-! the tape -/
def Tape (H : Hp) (ta : Addr) : Prop := ∃ d x : Int, H ta = some (.lst [.int d, .int x]) ∧ 0 ≤ d
theorem Tape.ex {H H' : Hp} {ta : Addr} (T : Tape H ta) (e : Ex H H') : Tape H' ta := let ⟨d, x, h, h0⟩ := T; ⟨d, x, e _ _ h, h0⟩
theorem Tape.mut {H : Hp} {ta b : Addr} {o : HO} (T : Tape H ta) (h : b ≠ ta) : Tape (upd H b o) ta := let ⟨d, x, h1, h0⟩ := T; ⟨d, x, by rw [upd_ne (Ne.symm h)]; exact h1, h0⟩
theorem Tape.ne {H : Hp} {ta b : Addr} (T : Tape H ta) (h : H b = none) : b ≠ ta := let ⟨d, x, h1, _⟩ := T; Ne.symm (ne_of_none h1 h)
section
variable {P : Program} {w : World} {K : PySem.W.Frag} {mg : Str → Option Value} {base : Heap}
abbrev s__law_tape : Stmt := topS 70
abbrev n__law_tape : List Str := ["_law_script", "_law_k", "_law_cell", "_law_digits"]
theorem sc__law_tape : FnScope n__law_tape ["_law_script", "_law_k"] (defScope s__law_tape) := ⟨rfl, rfl, rfl, by decide +kernel, rfl, by decide +kernel, by decide +kernel⟩
def sp_law_tape : Sp := fun vs H Q _ => ∃ (sa : Addr) (zs : List Int) (k : Nat), vs = [.ref sa, .int k] ∧ SqL K H sa (zs.map V.int) ∧ k ≤ 3 ∧ ∀ H' ta, Ex H H' → H ta = none → Tape H' ta → Q (.ref ta) H'
theorem ok_law_tape (D : DefAt K mg "_law_tape" s__law_tape ["_law_script", "_law_k"]) (T : Txt mg) : At P w K mg base 1 "_law_tape" ["_law_script", "_law_k"] (sp_law_tape (K := K)) := D.at fun f fd F => by
  refine F.ok sc__law_tape (fun vs H Q E h => ?_) (fun cdv A outer s H vs Q E hr h => ?_)
  · obtain ⟨sa, zs, k, rfl, _⟩ := h
    rfl
  · obtain ⟨sa, zs, n, rfl, hs, hn, k⟩ := h
    refine ⟨_, (pss_cons (ps_set (i := 2) sc__law_tape.nd rfl (Or.inl rfl) pe_int)
      (pss_cons (ps_if (pt_cmpR op_lt (pv 1) (pe_callB call_len_seq (by rfl) T.len PySem.boot_len (pa_cons (pv 0) pa_nil)) (nomark _)) (pss_one (ps_set (i := 2) sc__law_tape.nd rfl (Or.inl rfl) (pe_ix ix_list (pv 0) (pv 1) (fun _ _ => rfl)))) pss_nil)
      (pss_cons (ps_set (i := 3) sc__law_tape.nd rfl (Or.inl rfl) (pe_op op_mul (pe_callB call_abs (by rfl) T.abs (by decide +kernel) (pa_cons (pv 2) pa_nil)) (pe_callTy call_int1 (by rfl) T.int (by decide +kernel) (pa_cons (pe_cmpR op_ge (pe_callB call_abs (by rfl) T.abs (by decide +kernel) (pa_cons (pv 2) pa_nil)) (pe_op op_pow pe_int pe_int) (nomark _)) pa_nil))))
      (pss_one (ps_ret (pe_lst (pa_cons (pv 3) (pa_cons (pe_op op_mod (pe_op op_mul (pe_op op_mod (pe_op op_add (pe_op op_add (pv 2) (pe_op op_mul pe_int (pv 1))) pe_int) pe_int) pe_int) pe_int) pa_nil)))))))), ?_⟩
    refine q_asg (ev_c (v := .int 0)) fun H1 e1 => ?_
    have hs1 := ex_l e1 hs
    refine seq_via (fun σ' H' => ∃ c : Int, Ex H H' ∧ σ' = [some (.ref sa), some (.int (n : Int)), some (.int c), none]) (fun σ' H' hw => ?_) fun key => ?_
    · obtain ⟨c, p1, rfl⟩ := hw
      have habs : Ev (tCB (fun xs H Q => ∃ i, xs = [V.int i] ∧ Q (.int (if i < 0 then -i else i)) H) (tCons (tVar 2) tNil)) [some (.ref sa), some (.int (n : Int)), some (.int c), none] H' (.int (if c < 0 then -c else c)) := ev_cb (ea_cons (ev_var rfl) ea_nil) fun H2 e2 Q q => ⟨c, rfl, q H2 (Ex.refl _)⟩
      have h0 : (0 : Int) ≤ if c < 0 then -c else c := by split <;> omega
      generalize (if c < 0 then -c else c) = ab at habs h0
      let g : Bool := decide ((10 : Int) ^ (18 : Int).toNat ≤ ab)
      refine q_asg (v := .int (ab * (if g = true then 1 else 0))) (ev_op habs (ev_cb (vs := [.bl g]) (ea_cons (ev_op habs (ev_op ev_c ev_c (rv_I ⟨by decide, by decide, by decide⟩)) rv_I0) ea_nil) fun H2 e2 Q q => .inr ⟨g, rfl, q H2 (Ex.refl _)⟩) (rv_I (.inr (by cases g <;> decide)))) fun H2 e2 => ?_
      have hd : (0 : Int) ≤ ab * (if g = true then 1 else 0) := by
        cases g
        · simp
        · simpa using h0
      generalize ab * (if g = true then 1 else 0) = d at hd
      refine s_retL (el_lst (ea_cons (ev_var rfl) (ea_cons (ev_op (ev_op (ev_op (ev_op (ev_op (ev_var rfl) (ev_op ev_c (ev_var rfl) (rv_I (.inl (by decide)))) rv_I0) ev_c rv_I0) ev_c (rv_I (by decide))) ev_c (rv_I (.inr (by decide)))) ev_c (rv_I (by decide))) ea_nil)) (show 2 ≤ 100000 by decide)) fun ta H3 hta e3 h3 => ?_
      exact k H3 ta ((p1.trans e2).trans e3) (fresh_back (p1.trans e2) hta) ⟨d, _, h3, hd⟩
    · refine q_when (b := decide (n < zs.length)) (et_test (ev_is (ev_op (ev_var rfl) (ev_len (K := K) (ev_var rfl) hs1) rv_I0) (congrArg V.bl (decide_eq_decide.mpr (by rw [List.length_map]; omega))))) (fun hb H2 e2 => ?_) (fun hb H2 e2 => ?_)
      · have hlt := of_decide_eq_true hb
        refine s_asg (v := .int zs[n]) (ev_op (ev_var rfl) (ev_var rfl) (rv_ixL (ex_l e2 hs1) (atI_nat (by rw [List.getElem?_map, List.getElem?_eq_getElem hlt]; rfl)))) fun H3 e3 => ?_
        exact key _ _ ⟨_, (e1.trans e2).trans e3, rfl⟩
      · exact key _ _ ⟨0, e1.trans e2, rfl⟩
abbrev s__law_draw : Stmt := topS 71
abbrev n__law_draw : List Str := ["_law_tape_here", "_law_many", "_law_found", "_law_once"]
theorem sc__law_draw : FnScope n__law_draw ["_law_tape_here", "_law_many"] (defScope s__law_draw) := ⟨rfl, rfl, rfl, by decide +kernel, rfl, by decide +kernel, by decide +kernel⟩
def sp_law_draw : Sp := fun vs H Q _ => ∃ (ta : Addr) (many : Nat), vs = [.ref ta, .int many] ∧ Tape H ta ∧ 0 < many ∧ many < 100000 ∧ ∀ (r : Nat) H', r < many → FrS [ta] H H' → Tape H' ta → Q (.int (r : Int)) H'
theorem draw_go {σ : L2.St} {H : Hp} {te : TE} {ta : Addr} {many i : Nat} {Q : VK} {E : XK} (T : Tape H ta) (hi : σ[i]? = some (some (.ref ta))) (hm : Ev te σ H (.int (many : Int))) (h0 : 0 < many) (h1 : many < 100000) (k : ∀ (r : Nat) H', r < many → FrS [ta] H H' → Tape H' ta → Q (.int (r : Int)) H') : tCall sp_law_draw [] E (tCons (tVar i) (tCons te tNil)) σ H Q :=
  ⟨.ref ta, hi, hm H (Ex.refl _) _ fun H1 e1 => ⟨ta, many, rfl, T.ex e1, h0, h1, fun r H' hr f T' => k r H' hr (.pre e1 f) T'⟩⟩
theorem ok_law_draw (D : DefAt K mg "_law_draw" s__law_draw ["_law_tape_here", "_law_many"]) (T : Txt mg) : At P w K mg base 1 "_law_draw" ["_law_tape_here", "_law_many"] sp_law_draw := D.at fun f fd F => by
  refine F.ok sc__law_draw (fun vs H Q E h => ?_) (fun cdv A outer s H vs Q E hr h => ?_)
  · obtain ⟨ta, many, rfl, _⟩ := h
    rfl
  · obtain ⟨ta, many, rfl, ⟨d, x, ht, hd⟩, h0, h1, k⟩ := h
    refine ⟨_, (pss_cons (ps_if (pt_cmpR op_gt (pe_ix ix_list (pv 0) pe_int (fun _ _ => rfl)) pe_int (nomark _)) (pss_cons (ps_set (i := 2) sc__law_draw.nd rfl (Or.inl rfl) (pe_op op_mod (pe_ix ix_list (pv 0) pe_int (fun _ _ => rfl)) (pv 1)))
      (pss_cons (ps_asg (pe_op op_fdiv (pe_ix ix_list (pv 0) pe_int (fun _ _ => rfl)) (pv 1)) (pg_sub (pv 0) pe_int set_list))
      (pss_one (ps_ret (pv 2))))) pss_nil)
      (pss_cons (ps_asg (pe_op op_mod (pe_op op_add (pe_op op_mul (pe_ix ix_list (pv 0) pe_int (fun _ _ => rfl)) pe_int) pe_int) pe_int) (pg_sub (pv 0) pe_int set_list))
      (pss_cons (ps_set (i := 3) sc__law_draw.nd rfl (Or.inl rfl) (pe_op op_mod (pe_op op_mul (pe_ix ix_list (pv 0) pe_int (fun _ _ => rfl)) (pe_op op_add (pe_op op_mod (pe_ix ix_list (pv 0) pe_int (fun _ _ => rfl)) pe_int) pe_int)) pe_int))
      (pss_one (ps_ret (pe_op op_mod (pe_op op_mod (pe_op op_mul (pv 3) (pe_op op_add (pe_op op_mod (pv 3) pe_int) pe_int)) pe_int) (pv 1))))))), ?_⟩
    have hm0 : (0 : Int) < (many : Int) := by omega
    refine q_when (b := decide (0 < d)) (et_test (ev_op (ev_op (ev_var rfl) ev_c (rv_ixL (sq_of ht) rfl)) ev_c rv_I0)) (fun hb H1 e1 => ?_) (fun hb H1 e1 => ?_)
    · have ht1 := e1 _ _ ht
      refine q_asg (v := .int (d % (many : Int))) (ev_op (ev_op (ev_var rfl) ev_c (rv_ixL (sq_of ht1) rfl)) (ev_var rfl) (rv_I hm0)) fun H2 e2 => ?_
      have ht2 := e2 _ _ ht1
      refine q_setL (j := 0) (v := .int (d / (many : Int))) ht2 (ev_op (ev_op (ev_var rfl) ev_c (rv_ixL (sq_of ht2) rfl)) (ev_var rfl) (rv_I ⟨hm0, by omega⟩)) (ev_var rfl) ev_c (show 0 < 2 by decide) fun H3 e3 => ?_
      have f3 : FrS [ta] H (upd H3 ta (.lst [.int (d / (many : Int)), .int x])) := (FrS.of ((e1.trans e2).trans e3)).inn (List.mem_singleton_self _)
      have hr1 := Int.emod_nonneg d (show (many : Int) ≠ 0 by omega)
      have hr2 := Int.emod_lt_of_pos d hm0
      refine s_ret (ev_is (ev_var rfl) (show V.int (d % (many : Int)) = .int (((d % (many : Int)).toNat : Nat) : Int) by rw [Int.toNat_of_nonneg hr1])) fun H4 e4 => ?_
      exact k _ H4 (by omega) (f3.ex e4) ⟨_, x, e4 _ _ upd_same, Int.ediv_nonneg hd (by omega)⟩
    · have ht1 := e1 _ _ ht
      refine q_setL (j := 1) (v := .int ((x * 48271 + 12345) % 2147483647)) ht1 (ev_op (ev_op (ev_op (ev_op (ev_var rfl) ev_c (rv_ixL (sq_of ht1) rfl)) ev_c (rv_I (.inr (by decide)))) ev_c rv_I0) ev_c (rv_I (by decide))) (ev_var rfl) ev_c (show 1 < 2 by decide) fun H3 e3 => ?_
      have hx0 := Int.emod_nonneg (x * 48271 + 12345) (show (2147483647 : Int) ≠ 0 by decide)
      have hx1 := Int.emod_lt_of_pos (x * 48271 + 12345) (show (0 : Int) < 2147483647 by decide)
      generalize (x * 48271 + 12345) % 2147483647 = y at hx0 hx1
      have f3 : FrS [ta] H (upd H3 ta (.lst [.int d, .int y])) := (FrS.of (e1.trans e3)).inn (List.mem_singleton_self _)
      have ht3 : (upd H3 ta (.lst [.int d, .int y])) ta = some (.lst [.int d, .int y]) := upd_same
      show tSeq _ _ _ _ (upd H3 ta (.lst [.int d, .int y]))
      generalize upd H3 ta (.lst [.int d, .int y]) = G3 at f3 ht3 ⊢
      have hy : Ev (tOp (rIxL K) (tVar 0) (tC (.int 1))) [some (.ref ta), some (.int (many : Int)), none, none] G3 (.int y) := ev_op (ev_var rfl) ev_c (rv_ixL (sq_of ht3) rfl)
      refine q_asg (v := .int (y * (y % 1009 + 3) % 2147483629)) (ev_op (ev_op hy (ev_op (ev_op hy ev_c (rv_I (by decide))) ev_c rv_I0) (rv_I (.inl ⟨by omega, by omega⟩))) ev_c (rv_I (by decide))) fun H4 e4 => ?_
      have ho0 := Int.emod_nonneg (y * (y % 1009 + 3)) (show (2147483629 : Int) ≠ 0 by decide)
      have ho1 := Int.emod_lt_of_pos (y * (y % 1009 + 3)) (show (0 : Int) < 2147483629 by decide)
      generalize y * (y % 1009 + 3) % 2147483629 = o at ho0 ho1
      have hr1 := Int.emod_nonneg (o * (o % 997 + 5) % 998244353) (show (many : Int) ≠ 0 by omega)
      have hr2 := Int.emod_lt_of_pos (o * (o % 997 + 5) % 998244353) hm0
      refine s_ret (ev_is (ev_op (ev_op (ev_op (ev_var rfl) (ev_op (ev_op (ev_var rfl) ev_c (rv_I (by decide))) ev_c rv_I0) (rv_I (.inl ⟨by omega, by omega⟩))) ev_c (rv_I (by decide))) (ev_var rfl) (rv_I hm0)) (show V.int (o * (o % 997 + 5) % 998244353 % (many : Int)) = .int (((o * (o % 997 + 5) % 998244353 % (many : Int)).toNat : Nat) : Int) by rw [Int.toNat_of_nonneg hr1])) fun H5 e5 => ?_
      exact k _ H5 (by omega) ((f3.ex e4).ex e5) ⟨d, y, e5 _ _ (e4 _ _ ht3), hd⟩
end
end K87W
/-! the law: webs drawn -/
namespace K87W
open PySem PySem.Spec PyProof.Rows L2 Evl K87X
/-- pairs in a list: each is such -/
def PL (H : Hp) (l : Addr) (m : Nat) (P : Nat → Nat → Prop) : Prop := ∃ as : List Addr, H l = some (.lst (as.map V.ref)) ∧ as.length ≤ m ∧ ∀ q ∈ as, ∃ p r : Nat, P p r ∧ H q = some (.tup [.int (p : Int), .int (r : Int)])
theorem PL.ex {H H' : Hp} {l : Addr} {m : Nat} {P : Nat → Nat → Prop} (L : PL H l m P) (e : Ex H H') : PL H' l m P :=
  let ⟨as, h1, h2, h3⟩ := L
  ⟨as, e _ _ h1, h2, fun q hq => let ⟨p, r, g1, g2⟩ := h3 q hq; ⟨p, r, g1, e _ _ g2⟩⟩
theorem PL.le {H : Hp} {l : Addr} {m m' : Nat} {P : Nat → Nat → Prop} (L : PL H l m P) (h : m ≤ m') : PL H l m' P :=
  let ⟨as, h1, h2, h3⟩ := L
  ⟨as, h1, Nat.le_trans h2 h, h3⟩
theorem PL.fr {H H' : Hp} {l ta : Addr} {m : Nat} {P : Nat → Nat → Prop} (L : PL H l m P) (f : FrS [ta] H H') (ht : Tape H ta) (hl : l ≠ ta) : PL H' l m P := by
  obtain ⟨as, h1, h2, h3⟩ := L
  obtain ⟨d, x, t1, _⟩ := ht
  refine ⟨as, f _ _ (fun z => hl (List.mem_singleton.mp z)) h1, h2, fun q hq => ?_⟩
  obtain ⟨p, r, g1, g2⟩ := h3 q hq
  exact ⟨p, r, g1, f _ _ (fun z => by rw [List.mem_singleton.mp z, t1] at g2; cases g2) g2⟩
/-- what stands while a web is drawn -/
structure Bs (H0 H : Hp) (ta la ra : Addr) (Lf Rt : List Nat) : Prop where
  fr : FrS [ta] H0 H
  tape : Tape H ta
  l : H la = some (.lst (natL Lf))
  r : H ra = some (.lst (natL Rt))
  nl : la ≠ ta
  nr : ra ≠ ta
section
variable {H0 H H' : Hp} {ta la ra b : Addr} {Lf Rt : List Nat} {o : HO}
theorem Bs.ex (B : Bs H0 H ta la ra Lf Rt) (e : Ex H H') : Bs H0 H' ta la ra Lf Rt := ⟨B.fr.ex e, B.tape.ex e, e _ _ B.l, e _ _ B.r, B.nl, B.nr⟩
theorem Bs.draw (B : Bs H0 H ta la ra Lf Rt) (f : FrS [ta] H H') (t : Tape H' ta) : Bs H0 H' ta la ra Lf Rt := ⟨B.fr.trans f, t, f _ _ (fun z => B.nl (List.mem_singleton.mp z)) B.l, f _ _ (fun z => B.nr (List.mem_singleton.mp z)) B.r, B.nl, B.nr⟩
theorem Bs.mut (B : Bs H0 H ta la ra Lf Rt) (h0 : H0 b = none) (h1 : b ≠ ta) (h2 : b ≠ la) (h3 : b ≠ ra) : Bs H0 (upd H b o) ta la ra Lf Rt := ⟨B.fr.mut h0, B.tape.mut h1, by rw [upd_ne (Ne.symm h2)]; exact B.l, by rw [upd_ne (Ne.symm h3)]; exact B.r, B.nl, B.nr⟩
end
theorem Bs.none {H0 H : Hp} {ta la ra b : Addr} {Lf Rt : List Nat} (B : Bs H0 H ta la ra Lf Rt) (h : H b = none) : H0 b = none := by
  cases h0 : H0 b with
  | none => rfl
  | some o =>
    by_cases hb : b = ta
    · obtain ⟨d, x, t1, _⟩ := B.tape
      rw [hb, t1] at h
      cases h
    · rw [B.fr _ _ (fun z => hb (List.mem_singleton.mp z)) h0] at h
      cases h
/-- the items of a list of pairs -/
def PT2 (H : Hp) (as : List Addr) (P : Nat → Nat → Prop) : Prop := ∀ q ∈ as, ∃ p r : Nat, P p r ∧ H q = some (.tup [.int (p : Int), .int (r : Int)])
theorem PT2.ex {H H' : Hp} {as : List Addr} {P : Nat → Nat → Prop} (h : PT2 H as P) (e : TEx H H') : PT2 H' as P := fun q hq => let ⟨p, r, g1, g2⟩ := h q hq; ⟨p, r, g1, e _ _ g2⟩
theorem PT2.app {H : Hp} {as bs : List Addr} {P : Nat → Nat → Prop} (h : PT2 H as P) (h' : PT2 H bs P) : PT2 H (as ++ bs) P := fun q hq => (List.mem_append.mp hq).elim (h q) (h' q)
theorem tex_draw {H H' : Hp} {ta : Addr} (f : FrS [ta] H H') (t : Tape H ta) : TEx H H' := TEx.fr f fun b hb ys z => by
  obtain ⟨d, x, t1, _⟩ := t
  rw [List.mem_singleton.mp hb, t1] at z
  cases z
theorem s_extP {K : PySem.W.Frag} {σ : L2.St} {H : Hp} {ta te : TE} {D : Ends} {l : Addr} {xs : List V} {P : V → Hp → Prop} (hl : H l = some (.lst xs)) (ha : Ev ta σ H (.ref l)) (h : EvP te σ H P) (q : ∀ v H1, Ex H H1 → P v H1 → ∃ b ys, v = .ref b ∧ H1 b = some (.lst ys) ∧ xs.length + ys.length ≤ 100000 ∧ D.nx σ (upd H1 l (.lst (xs ++ ys)))) : tDrop (tBM K "list" rExtend ta (tCons te tNil)) D σ H :=
  ha H (Ex.refl H) _ fun H1 e1 => ⟨Or.inl ⟨rfl, _, sq_of (e1 _ _ hl)⟩, h H1 e1 _ fun v H2 e2 hv => by
    obtain ⟨b, ys, rfl, g1, g2, g3⟩ := q v H2 (e1.trans e2) hv
    exact ⟨l, b, xs, ys, rfl, rfl, e2 _ _ (e1 _ _ hl), g1, sz_of g2, g3⟩⟩
theorem s_asgP {te : TE} {g : TG} {D : Ends} {σ : L2.St} {H : Hp} {P : V → Hp → Prop} (h : EvP te σ H P) (k : ∀ v H1, Ex H H1 → P v H1 → g v σ H1 D.nx) : tAsg te g D σ H := h.go k
theorem eu_tupV {K : PySem.W.Frag} {σ : L2.St} {H : Hp} {ta : TE} {a : Addr} {xs : List V} (h : Ev ta σ H (.ref a)) (hx : H a = some (.lst xs)) : EvU (tCB (fun xs H Q => ∃ p ys, xs = [.ref p] ∧ ((SqL K H p ys ∧ ∀ l, H l = none → Q (.ref l) (upd H l (.tup ys))) ∨ (SqT K H p ys ∧ Q (.ref p) H))) (tCons ta tNil)) σ H xs := fun H1 e Q q =>
  h H1 e _ fun H2 e2 => ⟨a, xs, rfl, .inl ⟨sq_of (e2 _ _ (e _ _ hx)), fun l hl => q l _ (fresh_back e2 hl) (e2.trans (Ex.new hl)) upd_same⟩⟩
theorem natL_empty {l : List Nat} : (natL l).isEmpty = l.isEmpty := isEmpty_len (natL_len l)
theorem ev_min2 {σ : L2.St} {H : Hp} {ta tb : TE} {i j : Int} (ha : Ev ta σ H (.int i)) (hb : Ev tb σ H (.int j)) : Ev (tCB (fun xs H Q => ∃ i j, xs = [V.int i, V.int j] ∧ Q (.int (if j < i then j else i)) H) (tCons ta (tCons tb tNil))) σ H (.int (if j < i then j else i)) := fun H1 e Q q =>
  ha H1 e _ fun H2 e2 => hb H2 (e.trans e2) _ fun H3 e3 => ⟨i, j, rfl, q H3 (e2.trans e3)⟩
/-- [(p, other) for other in l] -/
theorem ep_pairsLc {K : PySem.W.Frag} {σ : L2.St} {H : Hp} {tl te : TE} {a : Addr} {l vs : List Nat} {j p : Nat} (h : Ev tl σ H (.ref a)) (hx : H a = some (.lst (natL l))) (hz : l.length ≤ 40000) (hj : j < (wipe σ vs).length) (hw : ∀ x, wipe ((wipe σ vs).set j (some x)) vs = wipe σ vs)
    (he : ∀ (t : Nat) H1, Ex H H1 → Ev te ((wipe σ vs).set j (some (.int (t : Int)))) H1 (.int (p : Int))) :
    EvP (tLc (iList K tl) (gName j) tYes (tTup (tCons te (tCons (tVar j) tNil))) vs) σ H fun v H' => ∃ (r : Addr) (as : List Addr), v = .ref r ∧ H r = none ∧ H' r = some (.lst (as.map V.ref)) ∧ as.length = l.length ∧ ∀ q ∈ as, ∃ t ∈ l, H' q = some (.tup [.int (p : Int), .int (t : Int)]) := fun H0 e Q q => h H0 e _ fun H1 e1 => ⟨a, rfl, ⟨_, ex_l (e.trans e1) (sq_of hx)⟩, fun Dl hD =>
  lc_list (xs := natL l) (fun i H' => Ex H1 H' ∧ ∃ as : List Addr, H' Dl = some (.lst (as.map V.ref)) ∧ as.length = i ∧ Dl ∉ as ∧ ∀ q ∈ as, ∃ t ∈ l, H' q = some (.tup [.int (p : Int), .int (t : Int)])) ⟨Ex.new hD, [], upd_same, rfl, List.not_mem_nil, fun q hq => absurd hq List.not_mem_nil⟩ (fun i H' _ p' => ex_l ((e.trans e1).trans p'.1) (sq_of hx)) (fun i x H' hi p' => ⟨hw x, by
    obtain ⟨p1, as, d1, d2, d3, d4⟩ := p'
    obtain ⟨hil, rfl⟩ := natL_of hi
    unfold tYes
    try dsimp only
    rw [if_pos rfl]
    refine (eu_tup2 (he _ H' ((e.trans e1).trans p1)) (ev_var (List.getElem?_set_self hj))) H' (Ex.refl _) _ fun q' H2 hq' e2 h2 => ?_
    have d1' := e2 _ _ d1
    have nq : q' ≠ Dl := Ne.symm (ne_of_none d1 hq')
    refine ⟨_, d1', Nat.lt_of_lt_of_le (show _ < 100000 by rw [List.length_map]; omega) (by decide), Ex.mut (p1.trans e2) hD, as ++ [q'], by rw [upd_same, List.map_append]; rfl, by rw [List.length_append, d2]; rfl, fun z => (List.mem_append.mp z).elim d3 fun z => nq (List.mem_singleton.mp z).symm, fun u hu => ?_⟩
    rcases List.mem_append.mp hu with z | z
    · obtain ⟨t, g1, g2⟩ := d4 u z
      exact ⟨t, g1, by rw [upd_ne (fun w => d3 (by rw [← w]; exact z))]; exact e2 _ _ g2⟩
    · rw [List.mem_singleton.mp z]
      exact ⟨_, getD_mem' hil, by rw [upd_ne nq]; exact h2⟩⟩) (fun H' p' => by
    obtain ⟨p1, as, d1, d2, d3, d4⟩ := p'
    exact q _ H' (e1.trans p1) ⟨Dl, as, rfl, fresh_back (e.trans e1) hD, d1, by rw [d2, natL_len], d4⟩)⟩
theorem cut_mem {xs : List V} {lo hi : Option Int} {x : V} (h : x ∈ cutV xs lo hi) : x ∈ xs := by
  unfold cutV at h
  exact List.mem_of_mem_drop (List.mem_of_mem_take h)
theorem cut_le {xs : List V} {k : Nat} : (cutV xs none (some (k : Int))).length ≤ k := by
  unfold cutV
  rw [List.length_take, HT.sIx_none, HT.sIx_nat]
  omega
/-- the ties that such pairs make -/
theorem ties_of {H : Hp} {as : List Addr} {P : K87.Tie → Prop} (h : ∀ q ∈ as, ∃ p r : Nat, P (p, r) ∧ H q = some (.tup [.int (p : Int), .int (r : Int)])) : ∃ E : List K87.Tie, as.length = E.length ∧ (∀ e ∈ E, P e) ∧ ∀ (i : Nat) (q : Addr), as[i]? = some q → H q = some (.tup [.int ((K87.tieN E i).1 : Nat), .int ((K87.tieN E i).2 : Nat)]) := by
  induction as with
  | nil => exact ⟨[], rfl, fun e he => absurd he List.not_mem_nil, fun i q z => by simp at z⟩
  | cons a l ih =>
    obtain ⟨E, h1, h2, h3⟩ := ih fun q hq => h q (List.mem_cons_of_mem _ hq)
    obtain ⟨p, r, g1, g2⟩ := h a List.mem_cons_self
    refine ⟨(p, r) :: E, by rw [List.length_cons, List.length_cons, h1], fun e he => ?_, fun i q hq => ?_⟩
    · rcases List.mem_cons.mp he with z | z
      · rw [z]; exact g1
      · exact h2 e z
    · match i, hq with
      | 0, hq => cases hq; exact g2
      | i + 1, hq => exact h3 i q hq
theorem q_asgP' {te : TE} {g : TG} {tz : TS} {D : Ends} {σ : L2.St} {H : Hp} {P : V → Hp → Prop} (h : ∀ Q : VK, (∀ v H', P v H' → Q v H') → te σ H Q) (k : ∀ v H', P v H' → g v σ H' fun σ' H' => tz D σ' H') : tSeq (tAsg te g) tz D σ H := h _ k
section
variable {P : Program} {w : World} {K : PySem.W.Frag} {mg : Str → Option Value} {base : Heap}
abbrev s__law_two_once : Stmt := topS 72
abbrev n__law_two_once : List Str := ["_law_tape_here", "_law_great", "_law_many", "_law_sides", "_law_left", "_law_right", "_law_way", "_law_found", "_law_one", "_law_turn", "_law_ties", "_law_other", "_law_k"]
theorem sc__law_two_once : FnScope n__law_two_once ["_law_tape_here", "_law_great"] (defScope s__law_two_once) := ⟨rfl, rfl, rfl, by decide +kernel, rfl, by decide +kernel, by decide +kernel⟩
def sp_two_once : Sp := fun vs H Q _ => ∃ (ta : Addr) (g : Bool), vs = [.ref ta, .bl g] ∧ Tape H ta ∧ ∀ (a : Addr) (n : Nat) (E : List K87.Tie) H', FrS [ta] H H' → Tape H' ta → Web H' a n E → (∃ s, K87.Two E s) → Q (.ref a) H'
theorem ok_two_once (D : DefAt K mg "_law_two_once" s__law_two_once ["_law_tape_here", "_law_great"]) (T : Txt mg) (A_law_draw : At P w K mg base 1 "_law_draw" ["_law_tape_here", "_law_many"] sp_law_draw) : At P w K mg base 2 "_law_two_once" ["_law_tape_here", "_law_great"] sp_two_once := D.at fun f fd F => by
  refine F.ok sc__law_two_once (fun vs H Q E h => ?_) (fun cdv A outer s H vs Q E hr h => ?_)
  · obtain ⟨ta, g, rfl, _⟩ := h
    rfl
  · obtain ⟨ta, g, rfl, T0, k⟩ := h
    refine ⟨_, (pss_cons (ps_set (i := 2) sc__law_two_once.nd rfl (Or.inl rfl) (pe_ix ix_list (pe_lst (pa_cons (pe_at A_law_draw (hr.mono (by decide)) (pa_cons (pv 0) (pa_cons pe_int pa_nil))) (pa_cons (pe_op op_add pe_int (pe_at A_law_draw (hr.mono (by decide)) (pa_cons (pv 0) (pa_cons pe_int pa_nil)))) pa_nil))) (pe_callTy call_int1 (by rfl) T.int (by decide +kernel) (pa_cons (pv 1) pa_nil)) (fun _ _ => rfl)))
      (pss_cons (ps_set (i := 3) sc__law_two_once.nd rfl (Or.inr rfl) (pe_lc (own := [("_law_k", 12)]) rfl sc__law_two_once.nd (pi_range1 rfl T.range (pa_cons (pv 2) pa_nil)) (blkOk_by (own := [("_law_k", 12)]) (N := n__law_two_once) (sc := defScope s__law_two_once) (by decide +kernel)) (fun _ _ _ _ _ => (pg_name (i := 12) sc__law_two_once.nd rfl (Or.inl rfl))) (fun _ _ _ _ _ => pts_nil) (fun _ _ _ _ _ => (pe_at A_law_draw (hr.mono (by decide)) (pa_cons (pv 0) (pa_cons pe_int pa_nil))))))
      (pss_cons (ps_set (i := 4) sc__law_two_once.nd rfl (Or.inr rfl) (pe_lc (own := [("_law_k", 12)]) rfl sc__law_two_once.nd (pi_range1 rfl T.range (pa_cons (pv 2) pa_nil)) (blkOk_by (own := [("_law_k", 12)]) (N := n__law_two_once) (sc := defScope s__law_two_once) (by decide +kernel)) (fun _ _ _ _ _ => (pg_name (i := 12) sc__law_two_once.nd rfl (Or.inl rfl))) (fun _ _ _ _ _ => pts_one (pt_cmpR op_eq (pe_ix (r := rIxL K) ix_list (pv 3) (pv 12) (fun _ _ => rfl)) pe_int (nomark _))) (fun _ _ _ _ _ => (pv 12))))
      (pss_cons (ps_setLc (i := 5) (own := [("_law_k", 12)]) rfl sc__law_two_once.nd rfl rfl (sw_true rfl rfl rfl (by decide +kernel)) (pi_range1 rfl T.range (pa_cons (pv 2) pa_nil)) (blkOk_by (own := [("_law_k", 12)]) (N := n__law_two_once) (sc := defScope s__law_two_once) (by decide +kernel)) (fun _ _ _ _ _ => (pg_name (i := 12) sc__law_two_once.nd rfl (Or.inl rfl))) (fun _ _ _ _ _ => pts_one (pt_cmpR op_eq (pe_ix (r := rIxL K) ix_list (pv 3) (pv 12) (fun _ _ => rfl)) pe_int (nomark _))) (fun _ _ _ _ _ => (pv 12)))
      (pss_cons (ps_set (i := 6) sc__law_two_once.nd rfl (Or.inl rfl) (pe_at A_law_draw (hr.mono (by decide)) (pa_cons (pv 0) (pa_cons pe_int pa_nil))))
      (pss_cons (ps_set (i := 7) sc__law_two_once.nd rfl (Or.inr rfl) (pe_lst pa_nil))
      (pss_cons (ps_if (pw_and (pt_cmpR (op_neD hr.units) (pv 4) (pe_lst pa_nil) (nomark _)) (pw_and1 (pt_cmpR (op_neD hr.units) (pv 5) (pe_lst pa_nil) (nomark _)))).pt (pss_cons (ps_if (pt_cmpR op_eq (pv 6) pe_int (nomark _)) (pss_one (ps_for PassesOwn.never rfl (pi_list (pv 4)) (pg_name (i := 8) sc__law_two_once.nd rfl (Or.inr rfl)) (pss_one (ps_expr (pe_bm PySem.F.plainAttrs_list PySem.F.slot_list_extend PySem.F.type_list_extend mt_extend (pv 7) (pa_cons (pe_lc (own := [("_law_other", 11)]) rfl sc__law_two_once.nd (pi_list (pv 5)) (blkOk_by (own := [("_law_other", 11)]) (N := n__law_two_once) (sc := defScope s__law_two_once) (by decide +kernel)) (fun _ _ _ _ _ => (pg_name (i := 11) sc__law_two_once.nd rfl (Or.inl rfl))) (fun _ _ _ _ _ => pts_nil) (fun _ _ _ _ _ => (pe_tup (pa_cons (pv 8) (pa_cons (pv 11) pa_nil))))) pa_nil)))))) pss_nil)
      (pss_cons (ps_if (pt_cmpR op_eq (pv 6) pe_int (nomark _)) (pss_one (ps_set (i := 7) sc__law_two_once.nd rfl (Or.inr rfl) (pe_lc (own := [("_law_other", 11)]) rfl sc__law_two_once.nd (pi_list (pv 5)) (blkOk_by (own := [("_law_other", 11)]) (N := n__law_two_once) (sc := defScope s__law_two_once) (by decide +kernel)) (fun _ _ _ _ _ => (pg_name (i := 11) sc__law_two_once.nd rfl (Or.inl rfl))) (fun _ _ _ _ _ => pts_nil) (fun _ _ _ _ _ => (pe_tup (pa_cons (pe_ix (r := rIxL K) ix_list (pv 4) pe_int (fun _ _ => rfl)) (pa_cons (pv 11) pa_nil))))))) pss_nil)
      (pss_one (ps_if (pt_cmpR op_gt (pv 6) pe_int (nomark _)) (pss_one (ps_for PassesOwn.never rfl (pi_range1 rfl T.range (pa_cons (pe_at A_law_draw (hr.mono (by decide)) (pa_cons (pv 0) (pa_cons (pe_ix ix_list (pe_lst (pa_cons (pe_op op_add (pv 2) pe_int) (pa_cons (pe_op op_mul pe_int (pv 2)) pa_nil))) (pe_op op_mod (pv 6) pe_int) (fun _ _ => rfl)) pa_nil))) pa_nil)) (pg_name (i := 9) sc__law_two_once.nd rfl (Or.inl rfl)) (pss_one (ps_expr (pe_bm PySem.F.plainAttrs_list PySem.F.slot_list_append PySem.F.type_list_append mt_append (pv 7) (pa_cons (pe_tup (pa_cons (pe_ix ix_list (pv 4) (pe_at A_law_draw (hr.mono (by decide)) (pa_cons (pv 0) (pa_cons (pe_callB call_len_seq (by rfl) T.len PySem.boot_len (pa_cons (pv 4) pa_nil)) pa_nil))) (fun _ _ => rfl)) (pa_cons (pe_ix ix_list (pv 5) (pe_at A_law_draw (hr.mono (by decide)) (pa_cons (pv 0) (pa_cons (pe_callB call_len_seq (by rfl) T.len PySem.boot_len (pa_cons (pv 5) pa_nil)) pa_nil))) (fun _ _ => rfl)) pa_nil))) pa_nil)))))) pss_nil)))) pss_nil)
      (pss_cons (ps_if (pw_and (pt_cmpR (op_neD hr.units) (pv 7) (pe_lst pa_nil) (nomark _)) (pw_and1 (pt_cmpR op_eq (pe_at A_law_draw (hr.mono (by decide)) (pa_cons (pv 0) (pa_cons pe_int pa_nil))) pe_int (nomark _)))).pt (pss_one (ps_set (i := 7) sc__law_two_once.nd rfl (Or.inr rfl) (pe_op op_cat (pv 7) (pe_lc (own := [("_law_turn", 9)]) rfl sc__law_two_once.nd (pi_range1 rfl T.range (pa_cons (pe_op op_add pe_int (pe_at A_law_draw (hr.mono (by decide)) (pa_cons (pv 0) (pa_cons pe_int pa_nil)))) pa_nil)) (blkOk_by (own := [("_law_turn", 9)]) (N := n__law_two_once) (sc := defScope s__law_two_once) (by decide +kernel)) (fun _ _ _ _ _ => (pg_name (i := 9) sc__law_two_once.nd rfl (Or.inl rfl))) (fun _ _ _ _ _ => pts_nil) (fun _ _ _ _ _ => (pe_ix (r := rIxL K) ix_list (pv 7) (pe_at A_law_draw (hr.mono (by decide)) (pa_cons (pv 0) (pa_cons (pe_callB (r := rLenS K) call_len_seq (by rfl) T.len PySem.boot_len (pa_cons (pv 7) pa_nil)) pa_nil))) (fun _ _ => rfl))))))) pss_nil)
      (pss_cons (ps_set (i := 10) sc__law_two_once.nd rfl (Or.inl rfl) (pe_lst pa_nil))
      (pss_cons (ps_for PassesOwn.never rfl (pi_list (pe_slice sl_list (pv 7) po_none (po_some pe_int))) (pg_tup rfl (pgs_cons (pg_name (i := 8) sc__law_two_once.nd rfl (Or.inr rfl)) (pgs_cons (pg_name (i := 11) sc__law_two_once.nd rfl (Or.inl rfl)) pgs_nil))) (pss_one (ps_expr (pe_bm PySem.F.plainAttrs_list PySem.F.slot_list_insert PySem.F.type_list_insert mt_insert (pv 10) (pa_cons (pe_at A_law_draw (hr.mono (by decide)) (pa_cons (pv 0) (pa_cons (pe_op op_add (pe_callB call_len_seq (by rfl) T.len PySem.boot_len (pa_cons (pv 10) pa_nil)) pe_int) pa_nil))) (pa_cons (pe_tup (pa_cons (pe_callB (call_min2 rfl) (by rfl) T.min (by decide +kernel) (pa_cons (pv 8) (pa_cons (pv 11) pa_nil))) (pa_cons (pe_callB (call_max2 rfl) (by rfl) T.max (by decide +kernel) (pa_cons (pv 8) (pa_cons (pv 11) pa_nil))) pa_nil))) pa_nil))))))
      (pss_one (ps_ret (pe_tup (pa_cons (pv 2) (pa_cons (pe_callTy call_tuple_of (by rfl) T.tuple (by decide +kernel) (pa_cons (pv 10) pa_nil)) pa_nil))))))))))))))), ?_⟩
    -- how many
    refine q_asgP' (P := fun v H' => ∃ n : Nat, n ≤ 30 ∧ v = .int (n : Int) ∧ FrS [ta] H H' ∧ Tape H' ta) (fun Q' q' => draw_go (many := 8) T0 rfl ev_c (by decide) (by decide) fun r1 H1 hr1 f1 T1 => draw_go (many := 23) T1 rfl ev_c (by decide) (by decide) fun r2 H2 hr2 f2 T2 => ⟨8, (r2 : Int), rfl, rfl, show 2 ≤ sizeLine by decide, fun p hp => ⟨.bl g, rfl, .inr ⟨g, rfl, by
      have e2 := Ex.new (o := .lst [.int (r1 : Int), .int (8 + (r2 : Int))]) hp
      have hn : ∃ n : Nat, n ≤ 30 ∧ atI [V.int (r1 : Int), V.int (8 + (r2 : Int))] (if g = true then 1 else 0) = some (.int (n : Int)) := by
        cases g
        · exact ⟨r1, by omega, rfl⟩
        · exact ⟨8 + r2, by omega, rfl⟩
      obtain ⟨n, hn30, hat⟩ := hn
      exact ⟨p, _, _, _, rfl, rfl, sq_of upd_same, hat, q' _ _ ⟨n, hn30, rfl, (f1.trans f2).ex e2, T2.ex e2⟩⟩⟩⟩⟩) fun v G0 hv => ?_
    obtain ⟨n, hn30, rfl, F0, T3⟩ := hv
    -- sides
    refine q_asgP' (P := fun v H' => ∃ (sa : Addr) (bs : List Nat), v = .ref sa ∧ FrS [ta] G0 H' ∧ Tape H' ta ∧ sa ≠ ta ∧ G0 sa = none ∧ bs.length = n ∧ H' sa = some (.lst (natL bs))) (fun Q' q' => ⟨.int (n : Int), rfl, (n : Int), rfl, by omega, by omega, fun Dl hD => by
      have nD := T3.ne hD
      rw [show ((n : Int).toNat) = n by omega]
      refine lc_range (lo := 0) (n := n) (fun i H' => FrS [ta] G0 H' ∧ Tape H' ta ∧ ∃ bs : List Nat, bs.length = i ∧ H' Dl = some (.lst (natL bs))) ⟨FrS.of (Ex.new hD), T3.mut nD, [], rfl, upd_same⟩ (fun i H' hi p => ⟨rfl, ?_⟩) fun H' p => ?_
      · obtain ⟨p1, p2, bs, p3, p4⟩ := p
        unfold tYes
        try dsimp only
        rw [if_pos rfl]
        refine draw_go (many := 2) p2 rfl ev_c (by decide) (by decide) fun r H3 hr3 f3 T3' => ?_
        have p5 := f3 _ _ (fun z => nD (List.mem_singleton.mp z)) p4
        refine ⟨_, p5, Nat.lt_of_lt_of_le (show _ < 100000 by rw [natL_len]; omega) (by decide), (p1.trans f3).mut hD, T3'.mut nD, bs ++ [r], by rw [List.length_append, p3]; rfl, by rw [upd_same, natL_app]; rfl⟩
      · obtain ⟨p1, p2, bs, p3, p4⟩ := p
        exact q' _ _ ⟨Dl, bs, rfl, p1, p2, nD, hD, p3, p4⟩⟩) fun v H3 hv => ?_
    obtain ⟨sa, bs, rfl, f3, T4, nsa, hsa0, hbl, hbs⟩ := hv
    have F3 := F0.trans f3
    have bget : ∀ i, i < n → (natL bs)[i]? = some (.int ((bs.getD i 0 : Nat) : Int)) := fun i hi => natL_get (by omega)
    have side : ∀ (c : Nat) (H4 : Hp) (x4 x5 x6 x7 x8 x9 x10 x11 : Option V), H4 sa = some (.lst (natL bs)) → EvL (tLc (iRng1 (tCons (tVar 2) tNil)) (gName 12) (tTest (tOp rEq (tOp (rIxL K) (tVar 3) (tVar 12)) (tC (.int (c : Int))))) (tVar 12) [12]) [some (.ref ta), some (.bl g), some (.int (n : Int)), some (.ref sa), x4, x5, x6, x7, x8, x9, x10, x11, none] H4 (natL ((List.range n).filter fun i => decide (bs.getD i 0 = c))) := fun c H4 x4 x5 x6 x7 x8 x9 x10 x11 h4 =>
      el_is (el_lcR1 (n := (n : Int)) (fun i => decide (bs.getD i 0 = c)) (fun (i : Nat) => .int (i : Int)) (ea_cons (ev_var rfl) ea_nil) (by omega) (fun x => rfl) (fun i H5 e5 hi => et_test (ev_is (ev_op (ev_op (ev_var rfl) (ev_var rfl) (rv_ixL (sq_of (e5 _ _ h4)) (atI_nat (bget i (by omega))))) ev_c (rv_eq rfl)) (congrArg V.bl (dec_cast _ _)))) (fun i H5 e5 hi _ => ev_var rfl)) (by rw [show ((n : Int).toNat) = n by omega]; rfl)
    refine q_asgL (side 0 H3 _ _ _ _ _ _ _ _ hbs) fun la H4 hla e4 h4 => ?_
    refine q_asgL (side 1 H4 _ _ _ _ _ _ _ _ (e4 _ _ hbs)) fun ra H5 hra e5 h5 => ?_
    have hLm : ∀ i, i ∈ ((List.range n).filter fun i => decide (bs.getD i 0 = 0)) → i < n ∧ bs.getD i 0 = 0 := fun i hi => ⟨List.mem_range.mp (List.mem_filter.mp hi).1, of_decide_eq_true (List.mem_filter.mp hi).2⟩
    have hRm : ∀ i, i ∈ ((List.range n).filter fun i => decide (bs.getD i 0 = 1)) → i < n ∧ bs.getD i 0 = 1 := fun i hi => ⟨List.mem_range.mp (List.mem_filter.mp hi).1, of_decide_eq_true (List.mem_filter.mp hi).2⟩
    have hLl : ((List.range n).filter fun i => decide (bs.getD i 0 = 0)).length ≤ 30 := by
      have := List.length_filter_le (fun i => decide (bs.getD i 0 = 0)) (List.range n)
      rw [List.length_range] at this
      omega
    have hRl : ((List.range n).filter fun i => decide (bs.getD i 0 = 1)).length ≤ 30 := by
      have := List.length_filter_le (fun i => decide (bs.getD i 0 = 1)) (List.range n)
      rw [List.length_range] at this
      omega
    generalize ((List.range n).filter fun i => decide (bs.getD i 0 = 0)) = Lf at h4 hLm hLl
    generalize ((List.range n).filter fun i => decide (bs.getD i 0 = 1)) = Rt at h5 hRm hRl
    have B5 : Bs H H5 ta la ra Lf Rt := ⟨(F3.ex e4).ex e5, (T4.ex e4).ex e5, e5 _ _ h4, h5, T4.ne hla, (T4.ex e4).ne hra⟩
    -- the way
    refine q_asgP' (P := fun v H' => ∃ way : Nat, v = .int (way : Int) ∧ FrS [ta] H5 H' ∧ Tape H' ta) (fun Q' q' => draw_go (many := 6) B5.tape rfl ev_c (by decide) (by decide) fun way H6 hway f6 T6 => q' _ _ ⟨way, rfl, f6, T6⟩) fun v H6 hv => ?_
    obtain ⟨way, rfl, f6, T6⟩ := hv
    have B6 := B5.draw f6 T6
    refine q_asgL (el_lst ea_nil (show 0 ≤ 100000 by decide)) fun fo H7 hfo e7 h7 => ?_
    have B7 := B6.ex e7
    have tof := B6.tape.ne hfo
    have lof : fo ≠ la := Ne.symm (ne_of_none B6.l hfo)
    have rof : fo ≠ ra := Ne.symm (ne_of_none B6.r hfo)
    let PQ : Nat → Nat → Prop := fun p r => p ∈ Lf ∧ r ∈ Rt
    let St : Nat → L2.St → Hp → Prop := fun m σ' H' => ∃ (fa : Addr) (as : List Addr) (x8 x9 x11 : Option V), Bs H H' ta la ra Lf Rt ∧ H' fa = some (.lst (as.map V.ref)) ∧ as.length ≤ m ∧ PT2 H' as PQ ∧ H fa = none ∧ fa ≠ ta ∧ fa ≠ la ∧ fa ≠ ra ∧ σ' = [some (.ref ta), some (.bl g), some (.int (n : Int)), some (.ref sa), some (.ref la), some (.ref ra), some (.int (way : Int)), some (.ref fa), x8, x9, none, x11, none]
    have stex : ∀ {m σ' H' H''}, St m σ' H' → Ex H' H'' → St m σ' H'' := fun {m σ' H' H''} h e => by
      obtain ⟨fa, as, x8, x9, x11, b, h1, h2, h3, r⟩ := h
      exact ⟨fa, as, x8, x9, x11, b.ex e, e _ _ h1, h2, h3.ex (TEx.of e), r⟩
    have stle : ∀ {m m' σ' H'}, St m σ' H' → m ≤ m' → St m' σ' H' := fun {m m' σ' H'} h e => by
      obtain ⟨fa, as, x8, x9, x11, b, h1, h2, r⟩ := h
      exact ⟨fa, as, x8, x9, x11, b, h1, Nat.le_trans h2 e, r⟩
    have st0 : St 0 [some (.ref ta), some (.bl g), some (.int (n : Int)), some (.ref sa), some (.ref la), some (.ref ra), some (.int (way : Int)), some (.ref fo), none, none, none, none, none] H7 := ⟨fo, [], none, none, none, B7, h7, Nat.le_refl _, fun q hq => absurd hq List.not_mem_nil, B6.none hfo, tof, lof, rof, rfl⟩
    -- the pairs
    refine seq_via (St 1000) (fun σ' H' hw => ?_) fun key => ?_
    rotate_left
    · refine q_when (et_and (et_neNil (ev_var rfl) B7.l (dat_nat _)) fun _ => et_neNil (ev_var rfl) B7.r (dat_nat _)) (fun hb H8 e8 => ?_) (fun hb H8 e8 => key _ _ (stle (stex st0 e8) (by omega)))
      rw [Bool.and_eq_true, natL_empty, natL_empty] at hb
      have hLn : Lf ≠ [] := fun z => by rw [z] at hb; cases hb.1
      have hRn : Rt ≠ [] := fun z => by rw [z] at hb; cases hb.2
      have hLp := List.length_pos_iff.mpr hLn
      have hRp := List.length_pos_iff.mpr hRn
      have st8 := stex st0 e8
      -- way 0
      refine seq_via (St 900) (fun σ' H' hw => ?_) fun key1 => ?_
      rotate_left
      · refine q_when (b := decide (way = 0)) (et_test (ev_is (ev_op (ev_var rfl) ev_c (rv_eq rfl)) (congrArg V.bl (dec_cast way 0)))) (fun hb H9 e9 => ?_) (fun hb H9 e9 => key1 _ _ (stle (stex st8 e9) (by omega)))
        refine s_forLn (ev_var rfl) (sq_of (e9 _ _ (e8 _ _ B7.l))) (fun i σ' H' => St (30 * i) σ' H') (fun H10 e10 => stex (stex st8 e9) e10) (fun i σ' H' _ p => by obtain ⟨fa, as, x8, x9, x11, b, _⟩ := p; exact sq_of b.l) (fun i x σ' H' hx p => ?_) fun σ' H' p => key1 _ _ (stle p (by rw [natL_len]; omega))
        obtain ⟨fa, as, x8, x9, x11, b, h1, h2, h3, h4, h5, h6, h7', rfl⟩ := p
        obtain ⟨hi, rfl⟩ := natL_of hx

        refine s_extP h1 (ev_var rfl) (ep_pairsLc (l := Rt) (p := Lf.getD i 0) (ev_var rfl) b.r (by omega) (show 11 < 13 by decide) (fun _ => rfl) (fun t H11 e11 => ev_var rfl)) fun v H11 e11 hv => ?_
        obtain ⟨r, cs, rfl, hr, hr1, hcl, hcs⟩ := hv
        refine ⟨r, _, rfl, hr1, by rw [List.length_map, List.length_map]; omega, fa, as ++ cs, _, x9, x11, (b.ex e11).mut h4 h5 h6 h7', by rw [upd_same, List.map_append], by rw [List.length_append]; omega, ?_, h4, h5, h6, h7', rfl⟩
        have te : TEx H11 (upd H11 fa (.lst (as.map V.ref ++ cs.map V.ref))) := TEx.upd (e11 _ _ h1) (fun _ z => by cases z)
        exact (h3.ex ((TEx.of e11).trans te)).app fun q hq => by
          obtain ⟨t, ht, hqt⟩ := hcs q hq
          exact ⟨_, t, ⟨getD_mem' hi, ht⟩, te _ _ hqt⟩
      -- way 1
      obtain ⟨fa, as, x8, x9, x11, b, h1, h2, h3, h4, h5, h6, h7', rfl⟩ := hw
      have sta : St 900 _ H' := ⟨fa, as, x8, x9, x11, b, h1, h2, h3, h4, h5, h6, h7', rfl⟩
      refine seq_via (St 900) (fun σ' H' hw => ?_) fun key2 => ?_
      rotate_left
      · refine q_when (b := decide (way = 1)) (et_test (ev_is (ev_op (ev_var rfl) ev_c (rv_eq rfl)) (congrArg V.bl (dec_cast way 1)))) (fun hb H9 e9 => ?_) (fun hb H9 e9 => key2 _ _ (stex sta e9))
        have b9 := b.ex e9
        refine s_asgP (ep_pairsLc (l := Rt) (p := Lf.getD 0 0) (ev_var rfl) b9.r (by omega) (show 11 < 13 by decide) (fun _ => rfl) (fun t H11 e11 => ev_op (ev_var rfl) ev_c (rv_ixL (sq_of (e11 _ _ b9.l)) (atI_nat (j := 0) (natL_get hLp))))) fun v H10 e10 hv => ?_
        obtain ⟨r, cs, rfl, hr, hr1, hcl, hcs⟩ := hv
        refine key2 _ _ ⟨r, cs, _, _, _, b9.ex e10, hr1, by omega, fun q hq => ?_, b9.none hr, b9.tape.ne hr, Ne.symm (ne_of_none b9.l hr), Ne.symm (ne_of_none b9.r hr), rfl⟩
        obtain ⟨t, ht, hqt⟩ := hcs q hq
        exact ⟨_, t, ⟨getD_mem' hLp, ht⟩, hqt⟩
      -- further ways
      clear sta h1 h2 h3 h4 h5 h6 h7' b fa as x8 x9 x11
      obtain ⟨fa, as, x8, x9, x11, b, h1, h2, h3, h4, h5, h6, h7', rfl⟩ := hw
      have sta : St 900 _ H' := ⟨fa, as, x8, x9, x11, b, h1, h2, h3, h4, h5, h6, h7', rfl⟩
      refine s_when (b := decide (1 < way)) (et_test (ev_is (ev_op (ev_var rfl) ev_c rv_I0) (congrArg V.bl (decide_eq_decide.mpr (by omega))))) (fun hb H9 e9 => ?_) (fun hb H9 e9 => key _ _ (stle (stex sta e9) (by omega)))
      have b9 := b.ex e9
      have hnp : 0 < n := by
        have := (hLm _ (getD_mem' hLp)).1
        omega
      obtain ⟨m0, hm0, hm1, hat⟩ : ∃ m0 : Nat, 0 < m0 ∧ m0 ≤ 90 ∧ atI [V.int ((n : Int) + 2), V.int (3 * (n : Int))] ((way : Int) % 2) = some (.int (m0 : Int)) := by
        rcases Int.emod_two_eq (way : Int) with z | z
        · rw [z]
          exact ⟨n + 2, by omega, by omega, rfl⟩
        · rw [z]
          exact ⟨3 * n, by omega, by omega, rfl⟩
      refine draw_go (many := m0) b9.tape rfl (ev_opL1 (el_lst (ea_cons (ev_op (ev_var rfl) ev_c rv_I0) (ea_cons (ev_op ev_c (ev_var rfl) (rv_I (.inl (by decide)))) ea_nil)) (show 2 ≤ 100000 by decide)) (fun H10 e10 => ev_op (ev_var rfl) ev_c (rv_I (by decide))) fun p H10 hp e10 => rv_ixL (sq_of hp) hat) hm0 (by omega) fun r H10 hr f10 T10 => ⟨(r : Int), rfl, by omega, by omega, ?_⟩
      rw [show ((r : Int).toNat) = r by omega]
      refine for_range (lo := 0) (n := r) (fun i σ' H' => St (900 + i) σ' H') ?_ (fun i σ' H' hi p => ?_) fun σ' H' p => key _ _ (stle p (by omega))
      · exact ⟨fa, as, x8, x9, x11, b9.draw f10 T10, f10 _ _ (fun z => h5 (List.mem_singleton.mp z)) (e9 _ _ h1), h2, h3.ex ((TEx.of e9).trans (tex_draw f10 b9.tape)), h4, h5, h6, h7', rfl⟩
      · clear sta h1 h2 h3 h4 h5 h6 h7' b9 b
        obtain ⟨fa, as, x8, x9, x11, b, h1, h2, h3, h4, h5, h6, h7', rfl⟩ := p
        refine ⟨.ref fa, rfl, Or.inl ⟨rfl, _, sq_of h1⟩, .ref la, rfl, draw_go (many := Lf.length) b.tape rfl (ev_is (ev_len (K := K) (ev_var (i := 4) (v := .ref la) rfl) (sq_of b.l)) (by rw [natL_len])) hLp (by omega) fun r1 H11 hr1 f11 T11 => ?_⟩
        have b11 := b.draw f11 T11
        refine ⟨la, _, _, _, rfl, rfl, sq_of b11.l, atI_nat (natL_get hr1), .ref ra, rfl, draw_go (many := Rt.length) T11 rfl (ev_is (ev_len (K := K) (ev_var (i := 5) (v := .ref ra) rfl) (sq_of b11.r)) (by rw [natL_len])) hRp (by omega) fun r2 H12 hr2 f12 T12 => ?_⟩
        have b12 := b11.draw f12 T12
        refine ⟨ra, _, _, _, rfl, rfl, sq_of b12.r, atI_nat (natL_get hr2), show 2 ≤ sizeLine by decide, fun q hq => ?_⟩
        have e13 := Ex.new (o := .tup [.int ((Lf.getD r1 0 : Nat) : Int), .int ((Rt.getD r2 0 : Nat) : Int)]) hq
        have g1 : (upd H12 q (.tup [.int ((Lf.getD r1 0 : Nat) : Int), .int ((Rt.getD r2 0 : Nat) : Int)])) fa = some (.lst (as.map V.ref)) := e13 _ _ (f12 _ _ (fun z => h5 (List.mem_singleton.mp z)) (f11 _ _ (fun z => h5 (List.mem_singleton.mp z)) h1))
        have te : TEx H' (upd H12 q (.tup [.int ((Lf.getD r1 0 : Nat) : Int), .int ((Rt.getD r2 0 : Nat) : Int)])) := ((tex_draw f11 b.tape).trans (tex_draw f12 T11)).trans (TEx.of e13)
        have b13 := b12.ex e13
        have hq13 : (upd H12 q (.tup [.int ((Lf.getD r1 0 : Nat) : Int), .int ((Rt.getD r2 0 : Nat) : Int)])) q = some (.tup [.int ((Lf.getD r1 0 : Nat) : Int), .int ((Rt.getD r2 0 : Nat) : Int)]) := upd_same
        generalize upd H12 q (.tup [.int ((Lf.getD r1 0 : Nat) : Int), .int ((Rt.getD r2 0 : Nat) : Int)]) = G13 at g1 te b13 hq13
        have tu : TEx G13 (upd G13 fa (.lst (as.map V.ref ++ [.ref q]))) := TEx.upd g1 (fun _ z => by cases z)
        refine ⟨fa, _, .ref q, rfl, rfl, g1, Nat.lt_of_lt_of_le (show _ < 100000 by rw [List.length_map]; omega) (by decide), fa, as ++ [q], _, _, _, b13.mut h4 h5 h6 h7', by rw [upd_same, List.map_append]; rfl, by rw [List.length_append]; show as.length + 1 ≤ _; omega, ?_, h4, h5, h6, h7', rfl⟩
        exact (h3.ex (te.trans tu)).app fun u hu => by
          rw [List.mem_singleton.mp hu]
          exact ⟨_, _, ⟨getD_mem' hr1, getD_mem' hr2⟩, tu _ _ hq13⟩
    -- some of them once more
    refine seq_via (St 1100) (fun σ' H' hw => ?_) fun key => ?_
    rotate_left
    · obtain ⟨fa, as, x8, x9, x11, b, h1, h2, h3, h4, h5, h6, h7', rfl⟩ := hw
      have sta : St 1000 _ H' := ⟨fa, as, x8, x9, x11, b, h1, h2, h3, h4, h5, h6, h7', rfl⟩
      refine (et_neNil (ev_var rfl) h1 (dat_pairs fun q hq => let ⟨p, r, _, g⟩ := h3 q hq; ⟨_, _, g⟩)) H' (Ex.refl _) _ fun H8 e8 => ?_
      cases hem : (as.map V.ref).isEmpty with
      | true => exact key _ _ (stle (stex sta e8) (by omega))
      | false =>
        have hap : 0 < as.length := by
          cases as with
          | nil => cases hem
          | cons a l => exact Nat.succ_pos _
        have b8 := b.ex e8
        have h18 := e8 _ _ h1
        have h38 := h3.ex (TEx.of e8)
        show tTest (tOp rEq (tCall sp_law_draw [] E0 (tCons (tVar 0) (tCons (tC (.int 3)) tNil))) (tC (.int 0))) _ H8 _
        refine draw_go (many := 3) b8.tape rfl ev_c (by decide) (by decide) fun r H9 hr f9 T9 => ⟨rfl, _, rfl, ?_⟩
        have b9 := b8.draw f9 T9
        have h19 := f9 _ _ (fun z => h5 (List.mem_singleton.mp z)) h18
        have h39 := h38.ex (tex_draw f9 b8.tape)
        have st9 : St 1000 _ H9 := ⟨fa, as, x8, x9, x11, b9, h19, h2, h39, h4, h5, h6, h7', rfl⟩
        cases hd : decide (V.int (r : Int) = V.int 0) with
        | false => exact key _ _ (stle st9 (by omega))
        | true =>
          refine ⟨.ref fa, rfl, draw_go (many := 6) T9 rfl ev_c (by decide) (by decide) fun r2 H10 hr2 f10 T10 => ⟨1, (r2 : Int), rfl, rfl, 1 + (r2 : Int), rfl, by omega, by omega, fun Dl hD => ?_⟩⟩
          have b10 := b9.draw f10 T10
          have h110 := f10 _ _ (fun z => h5 (List.mem_singleton.mp z)) h19
          have h310 := h39.ex (tex_draw f10 T9)
          have nDt := T10.ne hD
          have nDf : Dl ≠ fa := Ne.symm (ne_of_none h110 hD)
          have nDl : Dl ≠ la := Ne.symm (ne_of_none b10.l hD)
          have nDr : Dl ≠ ra := Ne.symm (ne_of_none b10.r hD)
          have hD0 := b10.none hD
          rw [show ((1 + (r2 : Int)).toNat) = 1 + r2 by omega]
          refine lc_range (lo := 0) (n := 1 + r2) (fun i H' => ∃ cs : List Addr, Bs H H' ta la ra Lf Rt ∧ H' fa = some (.lst (as.map V.ref)) ∧ PT2 H' as PQ ∧ H' Dl = some (.lst (cs.map V.ref)) ∧ cs.length = i ∧ ∀ q ∈ cs, q ∈ as) ⟨[], b10.mut hD0 nDt nDl nDr, by rw [upd_ne (Ne.symm nDf)]; exact h110, h310.ex (TEx.of (Ex.new hD)), upd_same, rfl, fun q hq => absurd hq List.not_mem_nil⟩ (fun i H' hi p => ⟨rfl, ?_⟩) fun H' p => ?_
          · obtain ⟨cs, b', g1, g2, g3, g4, g5⟩ := p
            unfold tYes
            try dsimp only
            rw [if_pos rfl]
            refine ⟨.ref fa, rfl, draw_go (many := as.length) b'.tape rfl (ev_is (ev_len (K := K) (ev_var (i := 7) (v := .ref fa) rfl) (sq_of g1)) (by rw [List.length_map])) hap (by omega) fun r3 H11 hr3 f11 T11 => ?_⟩
            have b11 := b'.draw f11 T11
            have g1' := f11 _ _ (fun z => h5 (List.mem_singleton.mp z)) g1
            have g3' := f11 _ _ (fun z => nDt (List.mem_singleton.mp z)) g3
            refine ⟨fa, _, _, .ref as[r3], rfl, rfl, sq_of g1', atI_nat (by rw [List.getElem?_map, List.getElem?_eq_getElem hr3]; rfl), _, g3', Nat.lt_of_lt_of_le (show _ < 100000 by rw [List.length_map]; omega) (by decide), cs ++ [as[r3]], b11.mut hD0 nDt nDl nDr, by rw [upd_ne (Ne.symm nDf)]; exact g1', (g2.ex (tex_draw f11 b'.tape)).ex (TEx.upd g3' (fun _ z => by cases z)), by rw [upd_same, List.map_append]; rfl, by rw [List.length_append, g4]; rfl, fun q hq => ?_⟩
            rcases List.mem_append.mp hq with z | z
            · exact g5 q z
            · rw [List.mem_singleton.mp z]
              exact List.getElem_mem hr3
          · obtain ⟨cs, b', g1, g2, g3, g4, g5⟩ := p
            refine ⟨fa, Dl, _, _, rfl, rfl, g1, g3, Nat.le_trans (show _ ≤ 100000 by rw [List.length_map, List.length_map]; omega) (by decide), fun p hp => ?_⟩
            have ep := Ex.new (o := .lst (as.map V.ref ++ cs.map V.ref)) hp
            exact key _ _ ⟨p, as ++ cs, x8, x9, x11, b'.ex ep, by rw [upd_same, List.map_append], by rw [List.length_append]; omega, (g2.ex (TEx.of ep)).app fun q hq => (g2.ex (TEx.of ep)) q (g5 q hq), b'.none hp, b'.tape.ne hp, Ne.symm (ne_of_none b'.l hp), Ne.symm (ne_of_none b'.r hp), rfl⟩
    -- the ties
    obtain ⟨fa, as, x8, x9, x11, b, h1, h2, h3, h4, h5, h6, h7', rfl⟩ := hw
    refine q_asgL (el_lst ea_nil (show 0 ≤ 100000 by decide)) fun tl H8 htl e8 h8 => ?_
    have b8 := b.ex e8
    have ntt := b.tape.ne htl
    have ntl : tl ≠ la := Ne.symm (ne_of_none b.l htl)
    have ntr : tl ≠ ra := Ne.symm (ne_of_none b.r htl)
    have htl0 := b.none htl
    let GT : Nat → Nat → Prop := fun p r => p < r ∧ r < n ∧ decide (bs.getD p 0 = 1) ≠ decide (bs.getD r 0 = 1)
    refine q_forNL (el_sl (lo := none) (hi := some (90 : Int)) (ev_var rfl) eo_none (eo_some ev_c) (sq_of (e8 _ _ h1))) (fun pa i σ' H' => ∃ (cs : List Addr) (x8 x11 : Option V), Bs H H' ta la ra Lf Rt ∧ H' pa = some (.lst (cutV (as.map V.ref) none (some (90 : Int)))) ∧ pa ≠ ta ∧ pa ≠ tl ∧ PT2 H' as PQ ∧ H' tl = some (.lst (cs.map V.ref)) ∧ cs.length = i ∧ PT2 H' cs GT ∧ σ' = [some (.ref ta), some (.bl g), some (.int (n : Int)), some (.ref sa), some (.ref la), some (.ref ra), some (.int (way : Int)), some (.ref fa), x8, x9, some (.ref tl), x11, none])
      (fun pa H9 hpa e9 h9 => ⟨[], _, _, b8.ex e9, h9, b8.tape.ne hpa, Ne.symm (ne_of_none h8 hpa), h3.ex (TEx.of (e8.trans e9)), e9 _ _ h8, rfl, fun q hq => absurd hq List.not_mem_nil, rfl⟩) (fun pa i σ' H' _ p => by obtain ⟨cs, x8, x11, _, p2, _⟩ := p; exact sq_of p2) (fun pa i x σ' H' hx p => ?_) fun pa σ' H' p => ?_
    · obtain ⟨cs, x8, x11, b', p2, np1, np2, h3', p4, p5, p6, rfl⟩ := p
      have hcut := cut_le (xs := as.map V.ref) (k := 90)
      have hil := (List.getElem?_eq_some_iff.mp hx).1
      have hi90 : i < 90 := Nat.lt_of_lt_of_le hil hcut
      obtain ⟨q, hq, rfl⟩ := List.mem_map.mp (cut_mem (List.mem_of_getElem? hx))
      obtain ⟨p, r, ⟨hp, hr⟩, hqt⟩ := h3' q hq
      obtain ⟨hpn, hp0⟩ := hLm p hp
      obtain ⟨hrn, hr1⟩ := hRm r hr
      have hpr : p ≠ r := fun z => by rw [z, hr1] at hp0; cases hp0
      refine g_pair hqt ?_
      refine ⟨.ref tl, rfl, Or.inl ⟨rfl, _, sq_of p4⟩, draw_go (many := cs.length + 1) b'.tape rfl (ev_is (ev_op (ev_len (K := K) (ev_var (i := 10) (v := .ref tl) rfl) (sq_of p4)) ev_c rv_I0) (by rw [List.length_map]; rfl)) (by omega) (by omega) fun k' H9 hk' f9 T9 => ?_⟩
      have b9 := b'.draw f9 T9
      have p49 := f9 _ _ (fun z => ntt (List.mem_singleton.mp z)) p4
      have p29 := f9 _ _ (fun z => np1 (List.mem_singleton.mp z)) p2
      refine (eu_tup2 (ev_min2 (ev_var (v := .int (p : Int)) rfl) (ev_var (v := .int (r : Int)) rfl)) (ev_max2 (ev_var (v := .int (p : Int)) rfl) (ev_var (v := .int (r : Int)) rfl))) H9 (Ex.refl _) _ fun q' H10 hq' e10 h10 => ?_
      have p410 := e10 _ _ p49
      have tu : TEx H10 (upd H10 tl (.lst ((cs.map V.ref).take (k' : Int).toNat ++ [.ref q'] ++ (cs.map V.ref).drop (k' : Int).toNat))) := TEx.upd p410 (fun _ z => by cases z)
      have te : TEx H' (upd H10 tl (.lst ((cs.map V.ref).take (k' : Int).toNat ++ [.ref q'] ++ (cs.map V.ref).drop (k' : Int).toNat))) := ((tex_draw f9 b'.tape).trans (TEx.of e10)).trans tu
      refine ⟨tl, _, (k' : Int), .ref q', rfl, rfl, p410, Nat.lt_of_lt_of_le (show _ < 100000 by rw [List.length_map]; omega) (by decide), by omega, by omega, cs.take k' ++ [q'] ++ cs.drop k', _, _, (b9.ex e10).mut htl0 ntt ntl ntr, by rw [upd_ne np2]; exact e10 _ _ p29, np1, np2, h3'.ex te, ?_, ?_, fun u hu => ?_, rfl⟩
      · rw [upd_same, show ((k' : Int).toNat) = k' by omega]
        simp only [List.map_append, List.map_take, List.map_drop, List.map_cons, List.map_nil]
      · rw [List.length_append, List.length_append, List.length_take, List.length_drop]
        show min k' cs.length + 1 + (cs.length - k') = _
        omega
      · have hold : u ∈ cs → ∃ p r : Nat, GT p r ∧ (upd H10 tl (.lst ((cs.map V.ref).take (k' : Int).toNat ++ [.ref q'] ++ (cs.map V.ref).drop (k' : Int).toNat))) u = some (.tup [.int (p : Int), .int (r : Int)]) := fun z => (p6.ex te) u z
        rcases List.mem_append.mp hu with z | z
        · rcases List.mem_append.mp z with z | z
          · exact hold (List.mem_of_mem_take z)
          · rw [List.mem_singleton.mp z]
            have h11 := tu _ _ h10
            by_cases hlt : p < r
            · refine ⟨p, r, ⟨hlt, hrn, by rw [hp0, hr1]; decide⟩, ?_⟩
              rw [h11, if_neg (by omega), if_pos (by omega)]
            · refine ⟨r, p, ⟨by omega, hpn, by rw [hp0, hr1]; decide⟩, ?_⟩
              rw [h11, if_pos (by omega), if_neg (by omega)]
        · exact hold (List.mem_of_mem_drop z)
    · obtain ⟨cs, x8, x11, b', p2, np1, np2, h3', p4, p5, p6, rfl⟩ := p
      have hcut := cut_le (xs := as.map V.ref) (k := 90)
      obtain ⟨Es, hlen, hgood, hat⟩ := ties_of (P := fun e => GT e.1 e.2) p6
      refine ⟨.int (n : Int), rfl, (eu_tupV (K := K) (ev_var (i := 10) (v := .ref tl) rfl) p4) H' (Ex.refl _) _ fun b2 H9 hb2 e9 h9 => ⟨show 2 ≤ sizeLine by decide, fun a ha => ?_⟩⟩
      · have ea := Ex.new (o := .tup [.int (n : Int), .ref b2]) ha
        refine k a n Es _ ((b'.fr.ex e9).ex ea) ((b'.tape.ex e9).ex ea) ⟨⟨b2, cs, upd_same, ea _ _ h9, hlen, fun i t ht => ea _ _ (e9 _ _ (hat i t ht))⟩, fun e he => ⟨(hgood e he).1, (hgood e he).2.1⟩, hn30, by rw [← hlen, p5]; exact hcut⟩ ⟨fun p => decide (bs.getD p 0 = 1), fun e he => (hgood e he).2.2⟩
end
end K87W
/-! the law: its parts -/
namespace K87W
open PySem PySem.Spec PyProof.Rows L2 Evl K87X
theorem Web.dat {K : PySem.W.Frag} {H : Hp} {a b : Addr} {ts : List Addr} {n : Nat} {E : List K87.Tie} (C : WebC H a b ts n E) : Dat K H (ts.map V.ref) := dat_pairs fun q hq => by
  obtain ⟨i, hi, e⟩ := List.mem_iff_getElem.mp hq
  exact ⟨_, _, C.tie i q (by rw [List.getElem?_eq_getElem hi, e])⟩
/-! hueings as data -/
def oD : Option Nat → PyData
  | none => .none
  | some t => .int (t : Int)
theorem dp_opt {K : PySem.W.Frag} {H : Hp} (f : Nat → Option Nat) : ∀ l : List Nat, DpAll K H (l.map fun p => oV (f p)) (l.map fun p => oD (f p))
  | [] => .nil
  | p :: l => by
    refine .cons (show Dp K H (oV (f p)) (oD (f p)) from ?_) (dp_opt f l)
    cases f p with
    | none => exact .non
    | some t => exact .int _
theorem oD_ok (o : Option Nat) : (oD o).canLay0 = true ∧ (oD o).depth ≤ 8 := by cases o <;> exact ⟨by simp [oD, PyData.canLay0], by simp [oD, PyData.depth]⟩
theorem oD_eqv (o : Option Nat) : PyData.eqv (oD o) (oD o) = true := by cases o <;> simp [oD, PyData.eqv]
theorem oD_refl (f : Nat → Option Nat) : ∀ l : List Nat, PyData.eqvAll (l.map fun p => oD (f p)) (l.map fun p => oD (f p)) = true
  | [] => by simp [PyData.eqvAll]
  | p :: l => by
    show PyData.eqvAll (oD (f p) :: (l.map fun p => oD (f p))) (oD (f p) :: (l.map fun p => oD (f p))) = true
    simp only [PyData.eqvAll, Bool.and_eq_true]
    exact ⟨oD_eqv _, oD_refl f l⟩
theorem ev_eqOpt {K : PySem.W.Frag} {σ : L2.St} {H : Hp} {ta tb : TE} {a b : Addr} {m : Nat} {f : Nat → Option Nat} (ha : Ev ta σ H (.ref a)) (hb : Ev tb σ H (.ref b)) (h1 : H a = some (.lst (optL m f))) (h2 : H b = some (.lst (optL m f))) : Ev (tOp (rEqD K) ta tb) σ H (.bl true) := fun H1 e Q q =>
  ha H1 e _ fun H2 e2 => hb H2 (e.trans e2) _ fun H3 e3 => by
    have ex := (e.trans e2).trans e3
    have sh := (shaped_of (ds := (List.range m).map fun p => oD (f p)) fun d hd => by
      obtain ⟨p, _, rfl⟩ := List.mem_map.mp hd
      exact oD_ok _).1
    refine ⟨_, _, .lst (sq_of (ex _ _ h1)) (dp_opt f _), .lst (sq_of (ex _ _ h2)) (dp_opt f _), sh, sh, ?_⟩
    rw [show PyData.eqv (.list ((List.range m).map fun p => oD (f p))) (.list ((List.range m).map fun p => oD (f p))) = true by simp only [PyData.eqv]; exact oD_refl f _]
    exact q H3 (e2.trans e3)
theorem et_notBl {σ : L2.St} {H : Hp} {ta : TE} {b : Bool} (h : Ev ta σ H (.bl b)) : EvT (tTest (tOp rNotB ta (tC (.bl true)))) σ H (!b) := et_test (ev_op h ev_c fun H1 e Q q => ⟨b, true, rfl, rfl, by
  rw [show (!decide (b = true)) = !b by cases b <;> rfl]
  exact q H1 (Ex.refl _)⟩)
theorem ev_isBl {σ : L2.St} {H : Hp} {ta : TE} {b : Bool} (h : Ev ta σ H (.bl b)) : Ev (tOp rIsB ta (tC (.bl true))) σ H (.bl b) := ev_op h ev_c fun H1 e Q q => ⟨b, true, rfl, rfl, by
  rw [show decide (b = true) = b by cases b <;> rfl]
  exact q H1 (Ex.refl _)⟩
theorem Web.tex {H H' : Hp} {a : Addr} {n : Nat} {E : List K87.Tie} (e : TEx H H') (W : Web H a n E) : Web H' a n E :=
  let ⟨b, ts, w⟩ := W.at_
  ⟨⟨b, ts, e _ _ w.top, e _ _ w.ties, w.len, fun i t h => e _ _ (w.tie i t h)⟩, W.ok, W.ln, W.le⟩
section
variable {P : Program} {w : World} {K : PySem.W.Frag} {mg : Str → Option Value} {base : Heap}
abbrev s__law_two_sided : Stmt := topS 73
abbrev n__law_two_sided : List Str := ["_law_tape_here", "_law_great", "_law_web", "_law_turn"]
theorem sc__law_two_sided : FnScope n__law_two_sided ["_law_tape_here", "_law_great"] (defScope s__law_two_sided) := ⟨rfl, rfl, rfl, by decide +kernel, rfl, by decide +kernel, by decide +kernel⟩
theorem ok_two_sided (D : DefAt K mg "_law_two_sided" s__law_two_sided ["_law_tape_here", "_law_great"]) (T : Txt mg) (A_law_two_once : At P w K mg base 2 "_law_two_once" ["_law_tape_here", "_law_great"] sp_two_once) : At P w K mg base 3 "_law_two_sided" ["_law_tape_here", "_law_great"] sp_two_once := D.at fun f fd F => by
  refine F.ok sc__law_two_sided (fun vs H Q E h => ?_) (fun cdv A outer s H vs Q E hr h => ?_)
  · obtain ⟨ta, g, rfl, _⟩ := h
    rfl
  · obtain ⟨ta, g, rfl, T0, k⟩ := h
    refine ⟨_, (pss_cons (ps_set (i := 2) sc__law_two_sided.nd rfl (Or.inl rfl) (pe_at A_law_two_once (hr.mono (by decide)) (pa_cons (pv 0) (pa_cons (pv 1) pa_nil))))
      (pss_cons (ps_for PassesOwn.never rfl (pi_range1 rfl T.range (pa_cons pe_int pa_nil)) (pg_name (i := 3) sc__law_two_sided.nd rfl (Or.inl rfl)) (pss_one (ps_if (pt_cmpR (op_eqD hr.units) (pe_ix ix_tup (pv 2) pe_int (fun _ _ => rfl)) (pe_tup pa_nil) (nomark _)) (pss_one (ps_set (i := 2) sc__law_two_sided.nd rfl (Or.inl rfl) (pe_at A_law_two_once (hr.mono (by decide)) (pa_cons (pv 0) (pa_cons (pv 1) pa_nil))))) pss_nil)))
      (pss_one (ps_ret (pv 2))))), ?_⟩
    refine q_asgP' (P := fun v H' => ∃ (a : Addr) (n : Nat) (E : List K87.Tie), v = .ref a ∧ FrS [ta] H H' ∧ Tape H' ta ∧ Web H' a n E ∧ ∃ s, K87.Two E s) (fun Q' q' => ⟨.ref ta, rfl, .bl g, rfl, ta, g, rfl, T0, fun a n E H' f T' W two => q' _ _ ⟨a, n, E, rfl, f, T', W, two⟩⟩) fun v H1 hv => ?_
    obtain ⟨a, n, E, rfl, f1, T1, W1, two1⟩ := hv
    refine q_forR1 (n := 3) (ea_cons ev_c ea_nil) (by decide) (fun i σ' H' => ∃ (a : Addr) (n : Nat) (E : List K87.Tie) (x3 : Option V), FrS [ta] H H' ∧ Tape H' ta ∧ Web H' a n E ∧ (∃ s, K87.Two E s) ∧ σ' = [some (.ref ta), some (.bl g), some (.ref a), x3]) (fun H2 e2 => ⟨a, n, E, _, f1.ex e2, T1.ex e2, W1.ex e2, two1, rfl⟩) (fun i σ' H' hi p => ?_) fun σ' H' p => ?_
    · obtain ⟨a, n, E, x3, f2, T2, W2, two2, rfl⟩ := p
      obtain ⟨b, ts, C⟩ := W2.at_
      refine s_when (et_eqNilT (K := K) (ev_ts C (ev_var rfl)) C.ties (Web.dat C)) (fun hb H3 e3 => ?_) (fun hb H3 e3 => ⟨a, n, E, _, f2.ex e3, T2.ex e3, W2.ex e3, two2, rfl⟩)
      exact ⟨.ref ta, rfl, .bl g, rfl, ta, g, rfl, T2.ex e3, fun a n E H' f T' W two => ⟨a, n, E, _, (f2.ex e3).trans f, T', W, two, rfl⟩⟩
    · obtain ⟨a, n, E, x3, f2, T2, W2, two2, rfl⟩ := p
      exact s_ret (ev_var rfl) fun H3 e3 => k a n E H3 (f2.ex e3) (T2.ex e3) (W2.ex e3) two2
def sp_right : Sp := fun vs H Q _ => ∃ (a : Addr) (n : Nat) (E : List K87.Tie), vs = [.ref a] ∧ Web H a n E ∧ (∃ s, K87.Two E s) ∧ RetV (.bl true) H Q
theorem sv_right {H : Hp} {a : Addr} {n : Nat} {E : List K87.Tie} (W : Web H a n E) (two : ∃ s, K87.Two E s) : SpV sp_right [.ref a] H (.bl true) := fun H1 e Q q _ => ⟨a, n, E, rfl, W.ex e, two, fun H2 e2 => q H2 e2⟩
abbrev s__law_steps_right : Stmt := topS 74
abbrev n__law_steps_right : List Str := ["_law_web", "_law_hueing", "_law_steps", "_law_many", "_law_last", "_law_found", "_law_hued", "_law_hue"]
theorem sc__law_steps_right : FnScope n__law_steps_right ["_law_web"] (defScope s__law_steps_right) := ⟨rfl, rfl, rfl, by decide +kernel, rfl, by decide +kernel, by decide +kernel⟩
theorem ok_steps_right (D : DefAt K mg "_law_steps_right" s__law_steps_right ["_law_web"]) (T : Txt mg) (A_by_rows : At P w K mg base 9 "by_rows" ["web"] sp_by_rows) (A_played : At P w K mg base 9 "played" ["web", "hueing", "steps"] sp_played) (A_is_hueing : At P w K mg base 3 "is_hueing" ["web", "thing"] sp_is_hueing) (A_is_whole : At P w K mg base 4 "is_whole" ["web", "thing"] sp_is_whole) :
    At P w K mg base 10 "_law_steps_right" ["_law_web"] sp_right := D.at fun f fd F => by
  refine F.ok sc__law_steps_right (fun vs H Q E h => ?_) (fun cdv A outer s H vs Q E hr h => ?_)
  · obtain ⟨a, n, E, rfl, _⟩ := h
    rfl
  · obtain ⟨a, n, E, rfl, W, two, k⟩ := h
    refine ⟨_, (pss_cons (ps_asg (pe_at A_by_rows (hr.mono (by decide)) (pa_cons (pv 0) pa_nil)) (pg_tup rfl (pgs_cons (pg_name (i := 1) sc__law_steps_right.nd rfl (Or.inl rfl)) (pgs_cons (pg_name (i := 2) sc__law_steps_right.nd rfl (Or.inl rfl)) pgs_nil))))
      (pss_cons (ps_set (i := 3) sc__law_steps_right.nd rfl (Or.inl rfl) pe_int)
      (pss_cons (ps_set (i := 4) sc__law_steps_right.nd rfl (Or.inl rfl) (pe_op op_rep (pe_lst (pa_cons pe_non pa_nil)) (pe_callB call_len_seq (by rfl) T.len PySem.boot_len (pa_cons (pe_ix ix_tup (pv 0) pe_int (fun _ _ => rfl)) pa_nil))))
      (pss_cons (ps_for PassesOwn.never rfl (pi_list (pe_at A_played (hr.mono (by decide)) (pa_cons (pv 0) (pa_cons (pv 4) (pa_cons (pv 2) pa_nil))))) (pg_name (i := 5) sc__law_steps_right.nd rfl (Or.inl rfl)) (pss_cons (ps_set (i := 6) sc__law_steps_right.nd rfl (Or.inl rfl) (pe_callB call_len_seq (by rfl) T.len PySem.boot_len (pa_cons (pe_lc (own := [("_law_hue", 7)]) rfl sc__law_steps_right.nd (pi_list (pv 5)) (blkOk_by (own := [("_law_hue", 7)]) (N := n__law_steps_right) (sc := defScope s__law_steps_right) (by decide +kernel)) (fun _ _ _ _ _ => (pg_name (i := 7) sc__law_steps_right.nd rfl (Or.inl rfl))) (fun _ _ _ _ _ => pts_one (pt_cmpR op_notN (pv 7) pe_non (nomark _))) (fun _ _ _ _ _ => (pv 7))) pa_nil)))
      (pss_cons (ps_if (pw_or (pt_cmpR op_notBl (pe_at A_is_hueing (hr.mono (by decide)) (pa_cons (pv 0) (pa_cons (pv 5) pa_nil))) pe_bl (nomark _)) (pw_or1 (pt_not (pt_chain op_le op_le (pv 3) (pv 6) (pe_op op_add (pv 3) pe_int))))).pt (pss_one (ps_ret pe_bl)) pss_nil)
      (pss_one (ps_par (i := 3) (j := 4) (by rfl) sc__law_steps_right.nd rfl rfl (by decide) rfl rfl (pa_cons (pv 6) (pa_cons (pe_callTy call_list_of (by rfl) T.list (by decide +kernel) (pa_cons (pv 5) pa_nil)) pa_nil)) (by rfl))))))
      (pss_one (ps_ret (pe_and (pe_cmpR (op_eqD hr.units) (pv 4) (pv 1) (nomark _)) (pe_one (pe_cmpR op_isBl (pe_at A_is_whole (hr.mono (by decide)) (pa_cons (pv 0) (pa_cons (pv 4) pa_nil))) pe_bl (nomark _)))))))))), ?_⟩
    have hln := W.ln
    have hle := W.le
    obtain ⟨b, ts, CW⟩ := W.at_
    refine q_asgP (ep_call (P := RowsV n E) (ea_cons (ev_var rfl) ea_nil) fun H1 e1 Q _ q => ⟨a, n, E, rfl, W.ex e1, two, q⟩) fun v H1 e1 hv => ?_
    obtain ⟨sd, two'⟩ := two
    obtain ⟨q, hl, sl, as, l, rfl, hq, hh, hs, SA, run, pr, whole, ll⟩ := hv
    refine g_pair hq ?_
    refine q_asg (ev_c (v := .int 0)) fun H2 e2 => ?_
    have ex2 := e1.trans e2
    refine q_asgL (xs := optL E.length h0) (el_is (el_rep (n := E.length) (x := .non) (el_lst (ea_cons ev_c ea_nil) (show 1 ≤ 100000 by decide)) (fun H3 e3 => ev_m (CW.ex (ex2.trans e3)) (ev_var rfl)) (by omega)) (by
      apply List.ext_getElem?
      intro i
      by_cases hi : i < E.length
      · rw [optL_get hi, List.getElem?_replicate, if_pos hi]; rfl
      · rw [List.getElem?_eq_none (by rw [List.length_replicate]; omega), List.getElem?_eq_none (by rw [optL_len]; omega)])) fun la H3 hla e3 h3 => ?_
    have e13 := e2.trans e3
    have ex3 := ex2.trans e3
    refine q_forP (ep_call (P := PlayedV n E h0 l) (ea_cons (ev_var rfl) (ea_cons (ev_var rfl) (ea_cons (ev_var rfl) ea_nil))) fun H4 e4 Q _ q => ⟨a, la, sl, n, E, sd, h0, as, l, rfl, (W.ex ex3).ex e4, two', e4 _ _ h3, e4 _ _ (e13 _ _ hs), SA.ex (TEx.of (e13.trans e4)), run, ll, q⟩) fun v H4 e4 hv => ?_
    obtain ⟨r, bs, rfl, hr, hbl, hbs⟩ := hv
    have ex4 := ex3.trans e4
    have e14 := e13.trans e4
    have hd0 : K87.hued E h0 = 0 := by
      unfold K87.hued
      rw [List.countP_eq_zero]
      intro t _ z
      cases z
    refine q_forLn (xs := bs.map V.ref) ev_c (sq_of hr) (fun j σ' H' => ∃ (lj : Addr) (x5 x6 : Option V), Ex H4 H' ∧ H' lj = some (.lst (optL E.length (K87.runTo n E h0 (l.take j)))) ∧ σ' = [some (.ref a), some (.ref hl), some (.ref sl), some (.int (K87.hued E (K87.runTo n E h0 (l.take j)) : Nat)), some (.ref lj), x5, x6, none])
      (fun H5 e5 => ⟨la, _, _, e5, e5 _ _ (e4 _ _ h3), by rw [List.take_zero]; show [_, _, _, some (V.int 0), _, _, _, _] = [_, _, _, some (V.int (K87.hued E h0 : Nat)), _, _, _, _]; rw [hd0]; rfl⟩) (fun j σ' H' _ p => by obtain ⟨_, _, _, p1, _⟩ := p; exact sq_of (p1 _ _ hr)) (fun j x σ' H' hx p => ?_) fun σ' H' p => ?_
    · obtain ⟨lj, x5, x6, p1, p2, rfl⟩ := p
      have hj : j < bs.length := by rw [← List.length_map (f := V.ref)]; exact (List.getElem?_eq_some_iff.mp hx).1
      obtain ⟨u, hu⟩ : ∃ u, bs[j]? = some u := ⟨_, List.getElem?_eq_getElem hj⟩
      rw [List.getElem?_map, hu] at hx
      cases hx
      obtain ⟨sp, hsp⟩ : ∃ sp, l[j]? = some sp := ⟨l[j], List.getElem?_eq_getElem (by omega)⟩
      have hu1 := p1 _ _ (hbs j u hu)
      have so := run.at hsp
      have htk := K87.runTo_take (n := n) (E := E) (h := h0) hsp
      have pr1 : K87.Proper E (K87.runTo n E h0 (l.take (j + 1))) := by rw [htk]; exact so.proper W.ok two'
      have hst := K87.hued_step sp so W.ok two'
      rw [← htk] at hst
      have exj : Ex H H' := ex4.trans p1
      refine q_asg (v := .int (K87.hued E (K87.runTo n E h0 (l.take (j + 1))) : Nat)) (ev_is (ev_lenN (el_lcL (fun t => (K87.runTo n E h0 (l.take (j + 1)) t).isSome) (fun t => oV (K87.runTo n E h0 (l.take (j + 1)) t)) (ev_var rfl) (sq_of hu1) (by rw [optL_len]; omega) (fun _ => rfl) (fun i x H5 e5 hx => ?_) (fun i x H5 e5 hx _ => ?_))) ?_) fun H5 e5 => ?_
      · have hi : i < E.length := by rw [← optL_len (n := E.length) (f := K87.runTo n E h0 (l.take (j + 1)))]; exact (List.getElem?_eq_some_iff.mp hx).1
        rw [optL_get hi] at hx
        cases hx
        exact et_notN (ev_var rfl) (by rw [oV_non]; cases K87.runTo n E h0 (l.take (j + 1)) i <;> rfl)
      · have hi : i < E.length := by rw [← optL_len (n := E.length) (f := K87.runTo n E h0 (l.take (j + 1)))]; exact (List.getElem?_eq_some_iff.mp hx).1
        rw [optL_get hi] at hx
        cases hx
        exact ev_var rfl
      · rw [optL_len]
        unfold given K87.hued
        rw [List.length_map, List.countP_eq_length_filter]
      · refine q_when (b := false) (et_or (a := false) (b := false) (et_notBl (b := true) (ev_call (ea_cons (ev_var rfl) (ea_cons (ev_var rfl) ea_nil)) (sv_is_hueing ((W.ex exj).ex e5) (e5 _ _ hu1) pr1))) fun _ => et_not (a := true) (et_test (ev_chain (a := true) (b := true) (ev_var rfl) (ev_var rfl) (by rw [← decide_eq_true (show ((K87.hued E (K87.runTo n E h0 (l.take j)) : Nat) : Int) ≤ (K87.hued E (K87.runTo n E h0 (l.take (j + 1))) : Nat) by omega)]; exact rv_I0) fun _ => ⟨_, ev_op (ev_var rfl) ev_c rv_I0, by rw [← decide_eq_true (show ((K87.hued E (K87.runTo n E h0 (l.take (j + 1))) : Nat) : Int) ≤ (K87.hued E (K87.runTo n E h0 (l.take j)) : Nat) + 1 by omega)]; exact rv_I0⟩))) (fun z => nomatch z) fun _ H6 e6 => ?_
        refine ⟨_, rfl, (el_list (K := K) (σ := _) (ev_var (i := 5) (v := .ref u) rfl) (sq_of (e6 _ _ (e5 _ _ hu1)))) H6 (Ex.refl _) _ fun lk H7 hlk e7 h7 => ⟨_, _, rfl, lk, _, _, ((p1.trans e5).trans e6).trans e7, h7, rfl⟩⟩
    · obtain ⟨lj, x5, x6, p1, p2, rfl⟩ := p
      rw [List.length_map, hbl, List.take_length] at p2
      have exj : Ex H H' := ex4.trans p1
      refine s_ret (ev_andV (a := true) (b := true) (ev_eqOpt (ev_var rfl) (ev_var rfl) p2 (p1 _ _ (e14 _ _ hh))) fun _ => ev_isBl (ev_call (ea_cons (ev_var rfl) (ea_cons (ev_var rfl) ea_nil)) (sv_is_whole (W.ex exj) p2 pr whole))) fun H5 e5 => k H5 (exj.trans e5)
end
end K87W
/-! the law: pairings, halves, all -/
namespace K87W
open PySem PySem.Spec PyProof.Rows L2 Evl K87X
theorem ev_allP {K : PySem.W.Frag} {σ : L2.St} {H : Hp} {tl te : TE} {g : TG} {tt : TT} {vs : List Nat} {P : V → Hp → Prop} (h : EvP tl σ H P) (k : ∀ v H1, Ex H H1 → P v H1 → ∃ n, EvL (tLc (iList K (tC v)) g tt te vs) σ H1 (given n (fun _ => true) fun _ => .bl true)) : Ev (tCB (rAll K) (tCons (tLc (iList K tl) g tt te vs) tNil)) σ H (.bl true) := fun H0 e Q q =>
  h H0 e _ fun v H1 e1 hp => by
    obtain ⟨n, hn⟩ := k v H1 (e.trans e1) hp
    exact ev_allT (K := K) hn H1 (Ex.refl _) Q fun H2 e2 => q H2 (e1.trans e2)
theorem ev_anyP {K : PySem.W.Frag} {σ : L2.St} {H : Hp} {tl te : TE} {g : TG} {tt : TT} {vs : List Nat} {P : V → Hp → Prop} (h : EvP tl σ H P) (k : ∀ v H1, Ex H H1 → P v H1 → ∃ n, EvL (tLc (iList K (tC v)) g tt te vs) σ H1 (given n (fun _ => true) fun _ => .bl false)) : Ev (tCB (rAny K) (tCons (tLc (iList K tl) g tt te vs) tNil)) σ H (.bl false) := fun H0 e Q q =>
  h H0 e _ fun v H1 e1 hp => by
    obtain ⟨n, hn⟩ := k v H1 (e.trans e1) hp
    exact ev_anyF (K := K) hn H1 (Ex.refl _) Q fun H2 e2 => q H2 (e1.trans e2)
section
variable {P : Program} {w : World} {K : PySem.W.Frag} {mg : Str → Option Value} {base : Heap}
abbrev s__law_pairings_taken : Stmt := topS 75
abbrev n__law_pairings_taken : List Str := ["_law_web", "_law_left", "_law_most", "_law_turn", "_law_own", "_law_gone", "_law_number", "_law_tie"]
theorem sc__law_pairings_taken : FnScope n__law_pairings_taken ["_law_web"] (defScope s__law_pairings_taken) := ⟨rfl, rfl, rfl, by decide +kernel, rfl, by decide +kernel, by decide +kernel⟩
theorem ok_pairings_taken (D : DefAt K mg "_law_pairings_taken" s__law_pairings_taken ["_law_web"]) (T : Txt mg) (A_most_at : At P w K mg base 2 "most_at" ["web"] sp_most_at) (A_only : At P w K mg base 3 "only" ["web", "ties"] sp_only) (A_full_pairing : At P w K mg base 6 "full_pairing" ["web"] sp_full_pairing) :
    At P w K mg base 7 "_law_pairings_taken" ["_law_web"] sp_right := D.at fun f fd F => by
  refine F.ok sc__law_pairings_taken (fun vs H Q E h => ?_) (fun cdv A outer s H vs Q E hr h => ?_)
  · obtain ⟨a, n, E, rfl, _⟩ := h
    rfl
  · obtain ⟨a, n, E, rfl, W, ⟨sd, two⟩, k⟩ := h
    refine ⟨_, (pss_cons (ps_set (i := 1) sc__law_pairings_taken.nd rfl (Or.inr rfl) (pe_listRg rfl rfl T.list (prg_1 rfl T.range (pe_callB call_len_seq (by rfl) T.len PySem.boot_len (pa_cons (pe_ix ix_tup (pv 0) pe_int (fun _ _ => rfl)) pa_nil)))))
      (pss_cons (ps_set (i := 2) sc__law_pairings_taken.nd rfl (Or.inl rfl) (pe_at A_most_at (hr.mono (by decide)) (pa_cons (pv 0) pa_nil)))
      (pss_cons (ps_for PassesOwn.never rfl (pi_range1 rfl T.range (pa_cons (pv 2) pa_nil)) (pg_name (i := 3) sc__law_pairings_taken.nd rfl (Or.inl rfl)) (pss_cons (ps_set (i := 4) sc__law_pairings_taken.nd rfl (Or.inl rfl) (pe_at A_only (hr.mono (by decide)) (pa_cons (pv 0) (pa_cons (pv 1) pa_nil))))
      (pss_cons (ps_if (pt_cmpR op_ne (pe_at A_most_at (hr.mono (by decide)) (pa_cons (pv 4) pa_nil)) (pe_op op_sub (pv 2) (pv 3)) (nomark _)) (pss_one (ps_ret pe_bl)) pss_nil)
      (pss_cons (ps_set (i := 5) sc__law_pairings_taken.nd rfl (Or.inr rfl) (pe_lc (own := [("_law_number", 6)]) rfl sc__law_pairings_taken.nd (pi_list (pe_at A_full_pairing (hr.mono (by decide)) (pa_cons (pv 4) pa_nil))) (blkOk_by (own := [("_law_number", 6)]) (N := n__law_pairings_taken) (sc := defScope s__law_pairings_taken) (by decide +kernel)) (fun _ _ _ _ _ => (pg_name (i := 6) sc__law_pairings_taken.nd rfl (Or.inl rfl))) (fun _ _ _ _ _ => pts_nil) (fun _ _ _ _ _ => (pe_ix (r := rIxL K) ix_list (pv 1) (pv 6) (fun _ _ => rfl)))))
      (pss_one (ps_set (i := 1) sc__law_pairings_taken.nd rfl (Or.inr rfl) (pe_lc (own := [("_law_tie", 7)]) rfl sc__law_pairings_taken.nd (pi_list (pv 1)) (blkOk_by (own := [("_law_tie", 7)]) (N := n__law_pairings_taken) (sc := defScope s__law_pairings_taken) (by decide +kernel)) (fun _ _ _ _ _ => (pg_name (i := 7) sc__law_pairings_taken.nd rfl (Or.inl rfl))) (fun _ _ _ _ _ => pts_one (pt_cmpR (r := rIn K true) op_notIn_seq (pv 7) (pv 5) (by rfl))) (fun _ _ _ _ _ => (pv 7)))))))))
      (pss_one (ps_ret (pe_cmpR (op_eqD hr.units) (pv 1) (pe_lst pa_nil) (nomark _))))))), ?_⟩
    have hln := W.ln
    have hle := W.le
    have hml := K87.most_le_len n E
    obtain ⟨b, ts, CW⟩ := W.at_
    refine q_asgL (el_rg (ev_m CW (ev_var rfl)) (by omega)) fun le H1 hle1 e1 h1 => ?_
    refine q_asg (ev_call (ea_cons (ev_var rfl) ea_nil) (sv_most_at (W.ex e1))) fun H2 e2 => ?_
    have ex2 := e1.trans e2
    have sub0 : K87.sub E (List.range E.length) = E := K87.sub_range
    refine q_forR1 (n := ((K87.mostAt n E : Nat) : Int)) (ea_cons (ev_var rfl) ea_nil) (by omega) (fun i σ' H' => ∃ (L : List Nat) (lf : Addr) (x3 x4 x5 x6 x7 : Option V), Ex H H' ∧ H' lf = some (.lst (natL L)) ∧ L.Nodup ∧ (∀ t ∈ L, t < E.length) ∧ K87.mostAt n (K87.sub E L) + i = K87.mostAt n E ∧ σ' = [some (.ref a), some (.ref lf), some (.int (K87.mostAt n E : Nat)), x3, x4, x5, x6, x7])
      (fun H3 e3 => ⟨_, le, _, _, _, _, _, ex2.trans e3, e3 _ _ (e2 _ _ h1), List.nodup_range, fun t ht => List.mem_range.mp ht, by rw [sub0]; rfl, rfl⟩) (fun i σ' H' hi p => ?_) fun σ' H' p => ?_
    · obtain ⟨L, lf, x3, x4, x5, x6, x7, p1, l1, nd, lt, hm, rfl⟩ := p
      have hz : L.length ≤ E.length := K87.len_le_range nd lt
      refine q_asgP (ep_call (P := fun v H2 => ∃ a', v = .ref a' ∧ Web H2 a' n (K87.sub E L)) (ea_cons (ev_var rfl) (ea_cons (ev_var rfl) ea_nil)) (sp_only_of (W.ex p1) l1 lt (by omega))) fun v H3 e3 hv => ?_
      obtain ⟨a', rfl, W3⟩ := hv
      refine q_when (b := false) (et_test (ev_is (ev_op (ev_call (ea_cons (ev_var rfl) ea_nil) (sv_most_at W3)) (ev_op (ev_var rfl) (ev_var rfl) rv_I0) (rv_ne rfl)) (congrArg V.bl (by
        rw [Bool.not_eq_false', decide_eq_true_eq]
        congr 1
        omega)))) (fun z => nomatch z) fun _ H4 e4 => ?_
      have l4 := e4 _ _ (e3 _ _ l1)
      have p4 := (p1.trans e3).trans e4
      refine q_asgP (P := fun v H' => ∃ p tl, v = .ref p ∧ H' p = some (.lst (natL (tl.map fun i => L.getD i 0))) ∧ K87.FullP n (K87.sub E L) tl) (ep_bindI (P := FullV n (K87.sub E L)) (ep_call (ea_cons (ev_var rfl) ea_nil) (sp_full_pairing_of (W3.ex e4) ⟨sd, K87.sub_Two two lt⟩)) fun v H5 e5 hv => ?_) fun v H5 e5 hv => ?_
      · obtain ⟨q, tl, rfl, hq, FP⟩ := hv
        have hlt : ∀ i ∈ tl, i < L.length := fun i hi => by have := FP.lt i hi; rw [K87.sub_length] at this; exact this
        have htl : tl.length ≤ L.length := K87.len_le_range (K87.ris_nodup FP.ris) hlt
        refine (EvL.p (xs := natL (tl.map fun i => L.getD i 0)) (el_is (el_lcN (l := tl) (fun _ => true) (fun i => .int ((L.getD i 0 : Nat) : Int)) ev_c hq (by omega) (fun _ => rfl) (fun i H6 e6 hi => et_yes) (fun i H6 e6 hi _ => ev_op (ev_var rfl) (ev_var rfl) (rv_ixL (sq_of (e6 _ _ (e5 _ _ l4))) (atI_nat (natL_get (hlt i hi)))))) (by
          rw [List.filter_eq_self.mpr fun _ _ => rfl]
          unfold natL
          rw [List.map_map]
          rfl))).imp fun v H6 e6 hv => ?_
        obtain ⟨p, g1, g2, g3⟩ := hv
        exact ⟨p, tl, g1, g3, FP⟩
      · obtain ⟨p, tl, rfl, hp, FP⟩ := hv
        have GO := FP.gone nd
        have l5 := e5 _ _ l4
        generalize hgl : (tl.map fun i => L.getD i 0) = gl at hp GO
        refine s_asgL (xs := natL (L.filter fun t => decide (t ∉ gl))) (el_lcN (fun t => decide (t ∉ gl)) (fun (t : Nat) => .int (t : Int)) (ev_var rfl) l5 (by omega) (fun _ => rfl) (fun t H7 e7 ht => et_test (ev_is (ev_op (ev_var rfl) (ev_var rfl) (rv_niL (sq_of (e7 _ _ hp)) rfl (natL_flat _))) (congrArg V.bl (by rw [inV_natL]; simp)))) (fun t H7 e7 ht _ => ev_var rfl)) fun q H7 hq e7 h7 => ?_
        have hless := GO.less (by omega)
        exact ⟨_, q, _, _, _, _, _, (p4.trans e5).trans e7, h7, nd.sublist List.filter_sublist, fun t ht => lt t (List.mem_filter.mp ht).1, by rw [hless]; omega, rfl⟩
    · obtain ⟨L, lf, x3, x4, x5, x6, x7, p1, l1, nd, lt, hm, rfl⟩ := p
      have hL : L = [] := by
        cases L with
        | nil => rfl
        | cons t L =>
          have := K87.most_pos_of (K87.sub_WOk W.ok lt) (by rw [K87.sub_length]; exact Nat.succ_pos _)
          omega
      subst hL
      exact s_ret (ev_eqNil (ev_var rfl) l1 (dat_nat _)) fun H3 e3 => k H3 (p1.trans e3)
abbrev s__law_pairing_right : Stmt := topS 76
abbrev n__law_pairing_right : List Str := ["_law_web", "_law_found", "_law_row"]
theorem sc__law_pairing_right : FnScope n__law_pairing_right ["_law_web"] (defScope s__law_pairing_right) := ⟨rfl, rfl, rfl, by decide +kernel, rfl, by decide +kernel, by decide +kernel⟩
theorem ok_pairing_right (D : DefAt K mg "_law_pairing_right" s__law_pairing_right ["_law_web"]) (T : Txt mg) (A_pairing : At P w K mg base 6 "pairing" ["web"] sp_pairing) (A_shows_pairing : At P w K mg base 2 "shows_pairing" ["web", "thing"] sp_shows_pairing) (A_by_pairings : At P w K mg base 7 "by_pairings" ["web"] sp_by_pairings) :
    At P w K mg base 8 "_law_pairing_right" ["_law_web"] sp_right := D.at fun f fd F => by
  refine F.ok sc__law_pairing_right (fun vs H Q E h => ?_) (fun cdv A outer s H vs Q E hr h => ?_)
  · obtain ⟨a, n, E, rfl, _⟩ := h
    rfl
  · obtain ⟨a, n, E, rfl, W, two, k⟩ := h
    refine ⟨_, (pss_cons (ps_set (i := 1) sc__law_pairing_right.nd rfl (Or.inr rfl) (pe_at A_pairing (hr.mono (by decide)) (pa_cons (pv 0) pa_nil)))
      (pss_cons (ps_if (pw_or (pt_cmpR op_notBl (pe_at A_shows_pairing (hr.mono (by decide)) (pa_cons (pv 0) (pa_cons (pv 1) pa_nil))) pe_bl (nomark _)) (pw_or1 (pt_cmpR op_ne (pe_callB call_len_seq (by rfl) T.len PySem.boot_len (pa_cons (pe_ix ix_tup (pv 1) pe_int (fun _ _ => rfl)) pa_nil)) (pe_callB call_len_seq (by rfl) T.len PySem.boot_len (pa_cons (pe_ix ix_tup (pv 1) pe_int (fun _ _ => rfl)) pa_nil)) (nomark _)))).pt (pss_one (ps_ret pe_bl)) pss_nil)
      (pss_one (ps_ret (pe_callB (cr_all rfl) (by rfl) T.all (by decide +kernel) (pa_cons (pe_lc (own := [("_law_row", 2)]) rfl sc__law_pairing_right.nd (pi_list (pe_at A_by_pairings (hr.mono (by decide)) (pa_cons (pv 0) pa_nil))) (blkOk_by (own := [("_law_row", 2)]) (N := n__law_pairing_right) (sc := defScope s__law_pairing_right) (by decide +kernel)) (fun _ _ _ _ _ => (pg_name (i := 2) sc__law_pairing_right.nd rfl (Or.inl rfl))) (fun _ _ _ _ _ => pts_nil) (fun _ _ _ _ _ => (pe_cmpR op_le (pe_callB (r := rLenS K) call_len_seq (by rfl) T.len PySem.boot_len (pa_cons (pv 2) pa_nil)) (pe_callB (r := rLenS K) call_len_seq (by rfl) T.len PySem.boot_len (pa_cons (pe_ix (r := rIxT K) ix_tup (pv 1) pe_int (fun _ _ => rfl)) pa_nil)) (nomark _)))) pa_nil)))))), ?_⟩
    refine q_asgP (ep_call (P := PairV n E) (ea_cons (ev_var rfl) ea_nil) (sp_pairing_of W two)) fun v H1 e1 hv => ?_
    obtain ⟨q, l1, l2, tl, cv, rfl, hq, h1, h2, R⟩ := hv
    have W1 := W.ex e1
    refine q_when (b := false) (et_or (a := false) (b := false) (et_notBl (b := true) (ev_call (ea_cons (ev_var rfl) (ea_cons (ev_var rfl) ea_nil)) (sv_shows_pairing W1 hq h1 h2 R))) fun _ => et_test (ev_is (ev_op (ev_len (K := K) (ev_op (ev_var rfl) ev_c (rv_ixT (v := .ref l1) (st_of hq) rfl)) (sq_of h1)) (ev_len (K := K) (ev_op (ev_var rfl) ev_c (rv_ixT (v := .ref l2) (st_of hq) rfl)) (sq_of h2)) (rv_ne rfl)) (by rw [natL_len, natL_len, R.len]; simp))) (fun z => nomatch z) fun _ H2 e2 => ?_
    have ex2 := e1.trans e2
    refine s_ret (ev_allP (ep_call (P := PairsV E) (ea_cons (ev_var rfl) ea_nil) fun H3 e3 Q _ q => ⟨a, n, E, rfl, (W.ex ex2).ex e3, two, q⟩) fun v H3 e3 hv => ?_) fun H3 e3 => k H3 (ex2.trans e3)
    obtain ⟨l, as, rs, rfl, hl, RL, hz⟩ := hv
    refine ⟨_, el_lcL (fun _ => true) (fun _ => .bl true) ev_c (sq_of hl) (by rw [List.length_map]; omega) (fun _ => rfl) (fun i x H4 e4 hx => et_yes) (fun i x H4 e4 hx _ => ?_)⟩
    have hi : i < as.length := by rw [← List.length_map (f := V.ref)]; exact (List.getElem?_eq_some_iff.mp hx).1
    obtain ⟨u, hu⟩ : ∃ u, as[i]? = some u := ⟨_, List.getElem?_eq_getElem hi⟩
    rw [List.getElem?_map, hu] at hx
    cases hx
    have := RL.len
    obtain ⟨r, hr⟩ : ∃ r, rs[i]? = some r := ⟨rs[i], List.getElem?_eq_getElem (by omega)⟩
    obtain ⟨g1, g2⟩ := RL.at_ i u r hu hr
    have hrow := K87.row_le g2.nd g2.apart g2.lt R.cov
    have hq4 := e4 _ _ (e3 _ _ (e2 _ _ hq))
    have h14 := e4 _ _ (e3 _ _ (e2 _ _ h1))
    refine ev_is (ev_op (ev_len (K := K) (ev_var rfl) (sq_of (e4 _ _ g1))) (ev_len (K := K) (ev_op (ev_var rfl) ev_c (rv_ixT (v := .ref l1) (st_of hq4) rfl)) (sq_of h14)) rv_I0) (congrArg V.bl (decide_eq_true ?_))
    rw [natL_len, natL_len, R.len]
    omega
end
end K87W
/-! the law: halves, all -/
namespace K87W
open PySem PySem.Spec PyProof.Rows L2 Evl K87X
/-- webs in a list, each of a greatest count within B -/
def Sound (H : Hp) (B : Nat) (a : Addr) : Prop := ∃ (n : Nat) (E : List K87.Tie), Web H a n E ∧ (∃ s, K87.Two E s) ∧ K87.mostAt n E ≤ B
theorem Sound.tex {H H' : Hp} {B : Nat} {a : Addr} (e : TEx H H') (S : Sound H B a) : Sound H' B a := let ⟨n, E, W, t, h⟩ := S; ⟨n, E, W.tex e, t, h⟩
theorem Sound.le {H : Hp} {B B' : Nat} {a : Addr} (S : Sound H B a) (h : B ≤ B') : Sound H B' a := let ⟨n, E, W, t, g⟩ := S; ⟨n, E, W, t, Nat.le_trans g h⟩
def hb : Nat → Nat
  | 0 => 90
  | i + 1 => (hb i + 1) / 2
theorem s_forTP {K : PySem.W.Frag} {σ : L2.St} {H : Hp} {tl : TE} {g : TG} {tu : TS} {D : Ends} {P : V → Hp → Prop} (h : EvP tl σ H P) (k : ∀ v H1, Ex H H1 → P v H1 → tFor (iTup K (tC v)) g tu D σ H1) : tFor (iTup K tl) g tu D σ H := h.go k
section
variable {P : Program} {w : World} {K : PySem.W.Frag} {mg : Str → Option Value} {base : Heap}
abbrev s__law_halves_right : Stmt := topS 77
abbrev n__law_halves_right : List Str := ["_law_web", "_law_waiting", "_law_turn", "_law_further", "_law_one", "_law_most", "_law_row", "_law_part", "_law_hue"]
theorem sc__law_halves_right : FnScope n__law_halves_right ["_law_web"] (defScope s__law_halves_right) := ⟨rfl, rfl, rfl, by decide +kernel, rfl, by decide +kernel, by decide +kernel⟩
theorem ok_halves_right (D : DefAt K mg "_law_halves_right" s__law_halves_right ["_law_web"]) (T : Txt mg) (A_most_at : At P w K mg base 2 "most_at" ["web"] sp_most_at) (A_halves : At P w K mg base 6 "halves" ["web"] sp_halves) (A_only : At P w K mg base 3 "only" ["web", "ties"] sp_only) (A_by_halves : At P w K mg base 8 "by_halves" ["web"] sp_by_halves) :
    At P w K mg base 9 "_law_halves_right" ["_law_web"] sp_right := D.at fun f fd F => by
  refine F.ok sc__law_halves_right (fun vs H Q E h => ?_) (fun cdv A outer s H vs Q E hr h => ?_)
  · obtain ⟨a, n, E, rfl, _⟩ := h
    rfl
  · obtain ⟨a, n, E, rfl, W, two, k⟩ := h
    refine ⟨_, (pss_cons (ps_set (i := 1) sc__law_halves_right.nd rfl (Or.inl rfl) (pe_lst (pa_cons (pv 0) pa_nil)))
      (pss_cons (ps_for PassesOwn.never rfl (pi_range1 rfl T.range (pa_cons pe_int pa_nil)) (pg_name (i := 2) sc__law_halves_right.nd rfl (Or.inl rfl)) (pss_cons (ps_set (i := 3) sc__law_halves_right.nd rfl (Or.inl rfl) (pe_lst pa_nil))
      (pss_cons (ps_for PassesOwn.never rfl (pi_list (pv 1)) (pg_name (i := 4) sc__law_halves_right.nd rfl (Or.inl rfl)) (pss_cons (ps_set (i := 5) sc__law_halves_right.nd rfl (Or.inr rfl) (pe_at A_most_at (hr.mono (by decide)) (pa_cons (pv 4) pa_nil)))
      (pss_one (ps_for PassesOwn.never rfl (pi_tup (pe_at A_halves (hr.mono (by decide)) (pa_cons (pv 4) pa_nil))) (pg_name (i := 6) sc__law_halves_right.nd rfl (Or.inl rfl)) (pss_cons (ps_set (i := 7) sc__law_halves_right.nd rfl (Or.inl rfl) (pe_at A_only (hr.mono (by decide)) (pa_cons (pv 4) (pa_cons (pv 6) pa_nil))))
      (pss_cons (ps_if (pt_cmpR op_gt (pe_at A_most_at (hr.mono (by decide)) (pa_cons (pv 7) pa_nil)) (pe_op op_fdiv (pe_op op_add (pv 5) pe_int) pe_int) (nomark _)) (pss_one (ps_ret pe_bl)) pss_nil)
      (pss_cons (ps_if (pt_val (pe_callB (cr_any rfl) (by rfl) T.any (by decide +kernel) (pa_cons (pe_lc (own := [("_law_hue", 8)]) rfl sc__law_halves_right.nd (pi_list (pe_at A_by_halves (hr.mono (by decide)) (pa_cons (pv 7) pa_nil))) (blkOk_by (own := [("_law_hue", 8)]) (N := n__law_halves_right) (sc := defScope s__law_halves_right) (by decide +kernel)) (fun _ _ _ _ _ => (pg_name (i := 8) sc__law_halves_right.nd rfl (Or.inl rfl))) (fun _ _ _ _ _ => pts_nil) (fun _ _ _ _ _ => (pe_cmpR op_ge (pv 8) (pe_op op_fdiv (pe_op op_add (pv 5) pe_int) pe_int) (nomark _)))) pa_nil))) (pss_one (ps_ret pe_bl)) pss_nil)
      (pss_one (ps_expr (pe_bm PySem.F.plainAttrs_list PySem.F.slot_list_extend PySem.F.type_list_extend mt_extend (pv 3) (pa_cons (pe_op op_rep (pe_lst (pa_cons (pv 7) pa_nil)) (pe_callTy call_int1 (by rfl) T.int (by decide +kernel) (pa_cons (pe_cmpR op_gt (pe_at A_most_at (hr.mono (by decide)) (pa_cons (pv 7) pa_nil)) pe_int (nomark _)) pa_nil))) pa_nil)))))))))))
      (pss_one (ps_set (i := 1) sc__law_halves_right.nd rfl (Or.inl rfl) (pv 3))))))
      (pss_one (ps_ret (pe_callB (cr_all rfl) (by rfl) T.all (by decide +kernel) (pa_cons (pe_lc (own := [("_law_one", 4)]) rfl sc__law_halves_right.nd (pi_list (pv 1)) (blkOk_by (own := [("_law_one", 4)]) (N := n__law_halves_right) (sc := defScope s__law_halves_right) (by decide +kernel)) (fun _ _ _ _ _ => (pg_name (i := 4) sc__law_halves_right.nd rfl (Or.inl rfl))) (fun _ _ _ _ _ => pts_nil) (fun _ _ _ _ _ => (pe_cmpR op_lt (pe_at A_most_at (hr.mono (by decide)) (pa_cons (pv 4) pa_nil)) pe_int (nomark _)))) pa_nil)))))), ?_⟩
    refine q_asgL (el_lst (ea_cons (ev_var (v := .ref a) rfl) ea_nil) (show 1 ≤ 100000 by decide)) fun wl H1 hwl e1 h1 => ?_
    refine q_forR1 (n := 8) (ea_cons ev_c ea_nil) (by decide) (fun i σ' H' => ∃ (wl : Addr) (as : List Addr) (x2 x3 x4 x5 x6 x7 : Option V), Ex H H' ∧ H' wl = some (.lst (as.map V.ref)) ∧ as.length ≤ 2 ^ i ∧ (∀ c ∈ as, Sound H' (hb i) c) ∧ σ' = [some (.ref a), some (.ref wl), x2, x3, x4, x5, x6, x7, none])
      (fun H2 e2 => ⟨wl, [a], _, _, _, _, _, _, e1.trans e2, e2 _ _ h1, Nat.le_refl _, fun c hc => by
        rw [List.mem_singleton.mp hc]
        have := K87.most_le_len n E
        exact ⟨n, E, W.ex (e1.trans e2), two, Nat.le_trans this W.le⟩, rfl⟩) (fun i σ' H' hi p => ?_) fun σ' H' p => ?_
    · obtain ⟨wl, as, x2, x3, x4, x5, x6, x7, p1, w1, al, S1, rfl⟩ := p
      have hi8 : i < 8 := by omega
      have hpow : 2 ^ i ≤ 128 := Nat.le_trans (Nat.pow_le_pow_right (by decide) (show i ≤ 7 by omega)) (by decide)
      refine q_asgL (el_lst ea_nil (show 0 ≤ 100000 by decide)) fun fl H2 hfl e2 h2 => ?_
      have hfl0 := fresh_back p1 hfl
      have p2 := p1.trans e2
      have nwf : wl ≠ fl := ne_of_none w1 hfl
      refine q_forLn (xs := as.map V.ref) (ev_var rfl) (sq_of (e2 _ _ w1)) (fun j σ' H' => ∃ (cs : List Addr) (x4 x5 x6 x7 : Option V), Ex H H' ∧ H' wl = some (.lst (as.map V.ref)) ∧ (∀ c ∈ as, Sound H' (hb i) c) ∧ H' fl = some (.lst (cs.map V.ref)) ∧ cs.length ≤ 2 * j ∧ (∀ c ∈ cs, Sound H' (hb (i + 1)) c) ∧ σ' = [some (.ref a), some (.ref wl), some (.int (i : Int)), some (.ref fl), x4, x5, x6, x7, none])
        (fun H3 e3 => ⟨[], _, _, _, _, p2.trans e3, e3 _ _ (e2 _ _ w1), fun c hc => (S1 c hc).tex (TEx.of (e2.trans e3)), e3 _ _ h2, Nat.le_refl _, fun c hc => absurd hc List.not_mem_nil, rfl⟩) (fun j σ' H' _ p => by obtain ⟨_, _, _, _, _, _, q2, _⟩ := p; exact sq_of q2) (fun j x σ' H' hx p => ?_) fun σ' H' p => ?_
      · obtain ⟨cs, x4, x5, x6, x7, q1, w2, S2, f2, cl, C2, rfl⟩ := p
        have hj : j < as.length := by rw [← List.length_map (f := V.ref)]; exact (List.getElem?_eq_some_iff.mp hx).1
        obtain ⟨u, hu⟩ : ∃ u, as[j]? = some u := ⟨_, List.getElem?_eq_getElem hj⟩
        rw [List.getElem?_map, hu] at hx
        cases hx
        obtain ⟨n', E', Wu, two', hmu⟩ := S2 u (List.mem_of_getElem? hu)
        have hle' := Wu.le
        refine q_asg (ev_call (ea_cons (ev_var rfl) ea_nil) (sv_most_at Wu)) fun H3 e3 => ?_
        have W3 := Wu.ex e3
        -- for row in halves(one)
        refine s_forTP (ep_call (P := HalfVF H3 n' E') (ea_cons (ev_var rfl) ea_nil) (sp_halves_fr W3 two')) fun v H4 e4 hv => ?_
        obtain ⟨q, l0, l1, r0, r1, rfl, f0, f1, hq, g0, g1, Ha⟩ := hv
        have n0 : l0 ≠ fl := Ne.symm (ne_of_none (e3 _ _ f2) f0)
        have n1 : l1 ≠ fl := Ne.symm (ne_of_none (e3 _ _ f2) f1)
        have m0 := Ha.most0
        have m1 := Ha.most1
        have e34 := e3.trans e4
        refine s_forTn (xs := [.ref l0, .ref l1]) ev_c (st_of hq) (fun z σ' H' => ∃ (ds : List Addr) (x6 x7 : Option V), Ex H H' ∧ H' q = some (.tup [.ref l0, .ref l1]) ∧ H' wl = some (.lst (as.map V.ref)) ∧ (∀ c ∈ as, Sound H' (hb i) c) ∧ H' fl = some (.lst (ds.map V.ref)) ∧ ds.length ≤ 2 * j + z ∧ (∀ c ∈ ds, Sound H' (hb (i + 1)) c) ∧ Web H' u n' E' ∧ H' l0 = some (.lst (natL r0)) ∧ H' l1 = some (.lst (natL r1)) ∧ σ' = [some (.ref a), some (.ref wl), some (.int (i : Int)), some (.ref fl), some (.ref u), some (.int (K87.mostAt n' E' : Nat)), x6, x7, none])
          (fun H5 e5 => ⟨cs, _, _, (q1.trans e34).trans e5, e5 _ _ hq, e5 _ _ (e34 _ _ w2), fun c hc => (S2 c hc).tex (TEx.of (e34.trans e5)), e5 _ _ (e34 _ _ f2), by omega, fun c hc => (C2 c hc).tex (TEx.of (e34.trans e5)), (W3.ex e4).ex e5, e5 _ _ g0, e5 _ _ g1, rfl⟩) (fun z σ' H' _ p => by obtain ⟨_, _, _, _, q2, _⟩ := p; exact st_of q2) (fun z x σ' H' hx p => ?_) fun σ' H' p => ?_
        · obtain ⟨ds, x6, x7, d1, d2, d3, d4, d5, d6, d7, d8, d9, d10, rfl⟩ := p
          have hz : z < 2 := (List.getElem?_eq_some_iff.mp hx).1
          obtain ⟨lr, r, rfl, hlr, rnd, rlt, rm⟩ : ∃ (lr : Addr) (r : List Nat), x = .ref lr ∧ H' lr = some (.lst (natL r)) ∧ r.Nodup ∧ (∀ t ∈ r, t < E'.length) ∧ K87.mostAt n' (K87.sub E' r) ≤ (K87.mostAt n' E' + 1) / 2 := by
            rcases (show z = 0 ∨ z = 1 by omega) with rfl | rfl
            · cases hx
              exact ⟨l0, r0, rfl, d9, Ha.nd0, Ha.lt0, m0⟩
            · cases hx
              exact ⟨l1, r1, rfl, d10, Ha.nd1, Ha.lt1, m1⟩
          have rlen : r.length ≤ E'.length := K87.len_le_range rnd rlt
          refine q_asgP (ep_call (P := fun v H2 => ∃ a', v = .ref a' ∧ Web H2 a' n' (K87.sub E' r)) (ea_cons (ev_var rfl) (ea_cons (ev_var rfl) ea_nil)) (sp_only_of d8 hlr rlt (by omega))) fun v H5 e5 hv => ?_
          obtain ⟨a', rfl, W5⟩ := hv
          have two5 : ∃ s, K87.Two (K87.sub E' r) s := let ⟨s, h⟩ := two'; ⟨s, K87.sub_Two h rlt⟩
          have bnd : ∀ {H6 : Hp} {y : Option V}, Ev (tOp (rI CDiv fun i j => .int (i / j)) (tOp (rI0 fun i j => .int (i + j)) (tVar 5) (tC (.int 1))) (tC (.int 2))) [some (.ref a), some (.ref wl), some (.int (i : Int)), some (.ref fl), some (.ref u), some (.int (K87.mostAt n' E' : Nat)), some (.ref lr), some (.ref a'), y] H6 (.int (((K87.mostAt n' E' + 1) / 2 : Nat) : Int)) := fun {H6 y} => ev_is (ev_op (ev_op (ev_var rfl) ev_c rv_I0) ev_c (rv_I ⟨by decide, by decide⟩)) (congrArg V.int (by omega))
          refine q_when (b := false) (et_test (ev_is (ev_op (ev_call (ea_cons (ev_var rfl) ea_nil) (sv_most_at W5)) bnd rv_I0) (congrArg V.bl (decide_eq_false (by omega))))) (fun z => nomatch z) fun _ H6 e6 => ?_
          refine q_when (b := false) (et_B (ev_anyP (ep_call (P := HuedV n' (K87.sub E' r)) (ea_cons (ev_var rfl) ea_nil) (sp_by_halves_of (W5.ex e6) two5)) fun v H7 e7 hv => ?_)) (fun z => nomatch z) fun _ H7 e7 => ?_
          · obtain ⟨l, hu', rfl, hl, hlt⟩ := hv
            refine ⟨_, el_lcL (fun _ => true) (fun _ => .bl false) ev_c (sq_of hl) (by rw [optL_len, K87.sub_length]; omega) (fun _ => rfl) (fun i x H8 e8 hx => et_yes) (fun i x H8 e8 hx _ => ?_)⟩
            have hi : i < (K87.sub E' r).length := by rw [← optL_len (n := (K87.sub E' r).length) (f := hu')]; exact (List.getElem?_eq_some_iff.mp hx).1
            rw [optL_get hi] at hx
            cases hx
            obtain ⟨c, hc, hcm⟩ := hlt i hi
            exact ev_is (ev_op (ev_is (ev_var rfl) (by rw [hc]; rfl : oV (hu' i) = .int (c : Int))) bnd rv_I0) (congrArg V.bl (decide_eq_false (by omega)))
          · have ex7 := (e5.trans e6).trans e7
            have W7 := (W5.ex e6).ex e7
            let g : Bool := decide (1 < K87.mostAt n' (K87.sub E' r))
            have d5' := ex7 _ _ d5
            refine s_extL (ys := List.replicate (if g = true then 1 else 0) (.ref a')) d5' (ev_var rfl) (el_rep (n := if g = true then 1 else 0) (el_lst (ea_cons (ev_var rfl) ea_nil) (show 1 ≤ 100000 by decide)) (fun H8 e8 => ev_is (ev_cb (vs := [.bl g]) (z := .int (if g = true then 1 else 0)) (ea_cons (ev_is (ev_op (ev_call (ea_cons (ev_var rfl) ea_nil) (sv_most_at (W7.ex e8))) ev_c rv_I0) (congrArg V.bl (decide_eq_decide.mpr (by omega)))) ea_nil) fun H9 e9 Q q => .inr ⟨g, rfl, q H9 (Ex.refl _)⟩) (by cases g <;> rfl)) (by cases g <;> decide)) (by
              rw [List.length_map, List.length_replicate]
              have : (if g = true then 1 else 0) ≤ 1 := by cases g <;> decide
              omega) fun H8 e8 => ?_
            have te : TEx H' (upd H8 fl (.lst (ds.map V.ref ++ List.replicate (if g = true then 1 else 0) (.ref a')))) := (TEx.of (ex7.trans e8)).trans (TEx.upd (e8 _ _ d5') (fun _ z => by cases z))
            have te8 : TEx H7 (upd H8 fl (.lst (ds.map V.ref ++ List.replicate (if g = true then 1 else 0) (.ref a')))) := (TEx.of e8).trans (TEx.upd (e8 _ _ d5') (fun _ z => by cases z))
            have ex8 := ex7.trans e8
            refine ⟨ds ++ List.replicate (if g = true then 1 else 0) a', _, _, Ex.mut (d1.trans ex8) hfl0, te _ _ d2, by rw [upd_ne nwf]; exact ex8 _ _ d3, fun c hc => (d4 c hc).tex te, by rw [upd_same, List.map_append, List.map_replicate], ?_, fun c hc => ?_, d8.tex te, by rw [upd_ne n0]; exact ex8 _ _ d9, by rw [upd_ne n1]; exact ex8 _ _ d10, rfl⟩
            · rw [List.length_append, List.length_replicate]
              have : (if g = true then 1 else 0) ≤ 1 := by cases g <;> decide
              omega
            · rcases List.mem_append.mp hc with q | q
              · exact (d7 c q).tex te
              · rw [(List.mem_replicate.mp q).2]
                refine ⟨n', K87.sub E' r, W7.tex te8, two5, ?_⟩
                show _ ≤ (hb i + 1) / 2
                omega
        · obtain ⟨ds, x6, x7, d1, d2, d3, d4, d5, d6, d7, d8, d9, d10, rfl⟩ := p
          exact ⟨ds, _, _, _, _, d1, d3, d4, d5, by have : [V.ref l0, V.ref l1].length = 2 := rfl; omega, d7, rfl⟩
      · obtain ⟨cs, x4, x5, x6, x7, q1, w2, S2, f2, cl, C2, rfl⟩ := p
        rw [List.length_map] at cl
        refine s_asg (ev_var rfl) fun H3 e3 => ⟨fl, cs, _, _, _, _, _, _, q1.trans e3, e3 _ _ f2, by rw [Nat.pow_succ]; omega, fun c hc => (C2 c hc).tex (TEx.of e3), rfl⟩
    · obtain ⟨wl, as, x2, x3, x4, x5, x6, x7, p1, w1, al, S1, rfl⟩ := p
      refine s_ret (ev_allT (el_lcL (fun _ => true) (fun _ => .bl true) (ev_var rfl) (sq_of w1) (by rw [List.length_map]; exact Nat.le_trans al (by decide)) (fun _ => rfl) (fun i x H3 e3 hx => et_yes) (fun i x H3 e3 hx _ => ?_))) fun H3 e3 => k H3 (p1.trans e3)
      obtain ⟨u, hu, rfl⟩ := List.mem_map.mp (List.mem_of_getElem? hx)
      obtain ⟨n', E', Wu, two', hmu⟩ := S1 u hu
      have h8 : hb (8 : Int).toNat = 1 := by decide
      rw [h8] at hmu
      exact ev_is (ev_op (ev_call (ea_cons (ev_var rfl) ea_nil) (sv_most_at (Wu.ex e3))) ev_c rv_I0) (congrArg V.bl (decide_eq_true (by omega)))
end
end K87W
/-! the law -/
namespace K87W
open PySem PySem.Spec PyProof.Rows L2 Evl K87X
section
variable {K : PySem.W.Frag} {σ : L2.St} {H : Hp} {ta : TE} {a b : Addr} {ts : List Addr} {n : Nat} {E : List K87.Tie}
theorem cut_take {xs : List V} {k : Nat} : cutV xs none (some (k : Int)) = xs.take k := by
  unfold cutV
  rw [HT.sIx_none, HT.sIx_nat]
  show xs.take (min k xs.length - 0) = xs.take k
  rw [Nat.sub_zero]
  by_cases h : k ≤ xs.length
  · rw [Nat.min_eq_left h]
  · rw [Nat.min_eq_right (by omega), List.take_length, List.take_of_length_le (by omega)]
/-- (web[0], web[1][:30]) -/
theorem ep_cutWeb (W : Web H a n E) (C : WebC H a b ts n E) (h : Ev ta σ H (.ref a)) : EvP (tTup (tCons (tOp (rIxT K) ta (tC (.int 0))) (tCons (tSl (rSlA K) (tOp (rIxT K) ta (tC (.int 1))) tNoPart (tPart (tC (.int 30)))) tNil))) σ H fun v H' => ∃ a', v = .ref a' ∧ Web H' a' n (E.take 30) := fun H1 e Q q =>
  ev_n (K := K) C h H1 e _ fun H2 e2 => ev_ts (K := K) C h H2 (e.trans e2) _ fun H3 e3 => ⟨30, rfl, b, ts.map V.ref, rfl, st_of (e3 _ _ (e2 _ _ (e _ _ C.ties))), by
    have ex3 := (e.trans e2).trans e3
    have tt : ∀ i, i < 30 → K87.tieN (E.take 30) i = K87.tieN E i := fun i hi => by
      unfold K87.tieN
      rw [List.getD_eq_getElem?_getD, List.getD_eq_getElem?_getD, List.getElem?_take, if_pos hi]
    have wk : K87.WOk n (E.take 30) := fun x hx => W.ok x (List.mem_of_mem_take hx)
    have wl : (E.take 30).length ≤ 90 := by have := W.le; rw [List.length_take]; omega
    have cl := C.len
    rw [HT.sIx_none, show HT.sIx (ts.map V.ref).length (ts.map V.ref).length (some (30 : Int)) = min 30 (ts.map V.ref).length from HT.sIx_nat _ _ 30, List.length_map]
    refine ⟨fun hw => ⟨show 2 ≤ sizeLine by decide, fun p hp => q _ _ ((e2.trans e3).trans (Ex.new hp)) ⟨p, rfl, ⟨b, ts, upd_same, Ex.new hp _ _ (ex3 _ _ C.ties), by rw [List.length_take]; omega, fun i t hi => ?_⟩, wk, W.ln, wl⟩⟩, fun hw p hp => ⟨show 2 ≤ sizeLine by decide, fun p' hp' => ?_⟩⟩
    · have := (List.getElem?_eq_some_iff.mp hi).1
      rw [tt i (by omega)]
      exact Ex.new hp _ _ (ex3 _ _ (C.tie i t hi))
    · have ep := Ex.new (o := .tup (cutV (ts.map V.ref) none (some 30))) hp
      have ep' := Ex.new (o := .tup [.int n, .ref p]) hp'
      refine q _ _ (((e2.trans e3).trans ep).trans ep') ⟨p', rfl, ⟨p, ts.take 30, upd_same, ?_, by rw [List.length_take, List.length_take, cl], fun i t hi => ?_⟩, wk, W.ln, wl⟩
      · refine ep' _ _ ?_
        rw [upd_same, show (some (30 : Int)) = some ((30 : Nat) : Int) from rfl, cut_take, List.map_take]
      · have h30 := (List.getElem?_eq_some_iff.mp hi).1
        rw [List.length_take] at h30
        rw [List.getElem?_take, if_pos (by omega)] at hi
        rw [tt i (by omega)]
        exact ep' _ _ (ep _ _ (ex3 _ _ (C.tie i t hi)))⟩
end
section
variable {P : Program} {w : World} {K : PySem.W.Frag} {mg : Str → Option Value} {base : Heap}
abbrev s_law : Stmt := topS 78
abbrev n_law : List Str := ["_law_script", "_law_k", "_law_tape_here", "_law_web"]
theorem sc_law : FnScope n_law ["_law_script"] (defScope s_law) := ⟨rfl, rfl, rfl, by decide +kernel, rfl, by decide +kernel, by decide +kernel⟩
def sp_law (K : PySem.W.Frag) : Sp := fun vs H Q _ => ∃ (sa : Addr) (zs : List Int), vs = [.ref sa] ∧ SqL K H sa (zs.map V.int) ∧ zs.length ≤ 1000 ∧ RetV (.bl true) H Q
theorem ok_law {f : Addr} {fd : FuncData} (F : Fun K "law" "law" s_law f fd) (T : Txt mg) (A_law_tape : At P w K mg base 1 "_law_tape" ["_law_script", "_law_k"] (sp_law_tape (K := K))) (A_law_draw : At P w K mg base 1 "_law_draw" ["_law_tape_here", "_law_many"] sp_law_draw) (A_law_two_sided : At P w K mg base 3 "_law_two_sided" ["_law_tape_here", "_law_great"] sp_two_once)
    (A_law_pairings_taken : At P w K mg base 7 "_law_pairings_taken" ["_law_web"] sp_right) (A_law_pairing_right : At P w K mg base 8 "_law_pairing_right" ["_law_web"] sp_right) (A_law_halves_right : At P w K mg base 9 "_law_halves_right" ["_law_web"] sp_right) (A_law_steps_right : At P w K mg base 10 "_law_steps_right" ["_law_web"] sp_right) :
    FnOk P w K mg base CX0 11 f fd ["_law_script"] (sp_law K) := by
  refine F.ok sc_law (fun vs H Q E h => ?_) (fun cdv A outer s H vs Q E hr h => ?_)
  · obtain ⟨sa, zs, rfl, _⟩ := h
    rfl
  · obtain ⟨sa, zs, rfl, hs, hz, k⟩ := h
    refine ⟨_, (pss_cons (ps_for PassesOwn.never rfl (pi_range1 rfl T.range (pa_cons (pe_op op_add pe_int (pe_callB (call_min2 rfl) (by rfl) T.min (by decide +kernel) (pa_cons pe_int (pa_cons (pe_callB call_len_seq (by rfl) T.len PySem.boot_len (pa_cons (pv 0) pa_nil)) pa_nil)))) pa_nil)) (pg_name (i := 1) sc_law.nd rfl (Or.inl rfl)) (pss_cons (ps_set (i := 2) sc_law.nd rfl (Or.inl rfl) (pe_at A_law_tape (hr.mono (by decide)) (pa_cons (pv 0) (pa_cons (pv 1) pa_nil))))
      (pss_cons (ps_set (i := 3) sc_law.nd rfl (Or.inl rfl) (pe_at A_law_two_sided (hr.mono (by decide)) (pa_cons (pv 2) (pa_cons (pe_and (pe_cmpR op_eq (pv 1) pe_int (nomark _)) (pe_one (pe_cmpR op_eq (pe_at A_law_draw (hr.mono (by decide)) (pa_cons (pv 2) (pa_cons pe_int pa_nil))) pe_int (nomark _)))) pa_nil))))
      (pss_cons (ps_if (pw_or (pt_not (pt_val (pe_at A_law_pairings_taken (hr.mono (by decide)) (pa_cons (pv 3) pa_nil)))) (pw_or (pt_not (pt_val (pe_at A_law_pairing_right (hr.mono (by decide)) (pa_cons (pv 3) pa_nil)))) (pw_or1 (pt_not (pt_val (pe_at A_law_halves_right (hr.mono (by decide)) (pa_cons (pv 3) pa_nil))))))).pt (pss_one (ps_ret pe_bl)) pss_nil)
      (pss_one (ps_if (pt_not (pt_val (pe_at A_law_steps_right (hr.mono (by decide)) (pa_cons (pe_tup (pa_cons (pe_ix ix_tup (pv 3) pe_int (fun _ _ => rfl)) (pa_cons (pe_slice sl_tupA (pe_ix ix_tup (pv 3) pe_int (fun _ _ => rfl)) po_none (po_some pe_int)) pa_nil))) pa_nil)))) (pss_one (ps_ret pe_bl)) pss_nil))))))
      (pss_one (ps_ret pe_bl))), ?_⟩
    have hn : (0 : Int) ≤ 1 + (if (zs.length : Int) < 3 then (zs.length : Int) else 3) ∧ 1 + (if (zs.length : Int) < 3 then (zs.length : Int) else 3) ≤ 4 := by split <;> omega
    refine q_forR1 (n := 1 + (if (zs.length : Int) < 3 then (zs.length : Int) else 3)) (ea_cons (ev_op ev_c (ev_min2 ev_c (ev_is (ev_len (K := K) (ev_var rfl) hs) (by rw [List.length_map]))) rv_I0) ea_nil) (by omega) (fun i σ' H' => ∃ x1 x2 x3, Ex H H' ∧ σ' = [some (.ref sa), x1, x2, x3]) (fun H1 e1 => ⟨_, _, _, e1, rfl⟩) (fun i σ' H' hi p => ?_) fun σ' H' p => ?_
    · obtain ⟨x1, x2, x3, p1, rfl⟩ := p
      refine q_asgP (ep_call (P := fun v H2 => ∃ ta, v = .ref ta ∧ H' ta = none ∧ Tape H2 ta) (ea_cons (ev_var rfl) (ea_cons (ev_var rfl) ea_nil)) fun H1 e1 Q _ q => ⟨sa, zs, i, rfl, ex_l (p1.trans e1) hs, by omega, fun H2 ta e2 h0 T' => q _ H2 e2 ⟨ta, rfl, fresh_back e1 h0, T'⟩⟩) fun v H1 e1 hv => ?_
      obtain ⟨ta, rfl, hta, T1⟩ := hv
      have two_go : ∀ {g : Bool} {H2 : Hp} {Q' : VK} {E' : XK}, Tape H2 ta → FrS [ta] H1 H2 → (∀ v H', (∃ (a : Addr) (n : Nat) (E : List K87.Tie), v = .ref a ∧ FrS [ta] H1 H' ∧ Web H' a n E ∧ ∃ s, K87.Two E s) → Q' v H') → sp_two_once [.ref ta, .bl g] H2 Q' E' := fun {g H2 Q' E'} T2 f2 q => ⟨ta, g, rfl, T2, fun a n E H3 f3 _ W two => q _ _ ⟨a, n, E, rfl, f2.trans f3, W, two⟩⟩
      refine q_asgP' (P := fun v H' => ∃ (a : Addr) (n : Nat) (E : List K87.Tie), v = .ref a ∧ FrS [ta] H1 H' ∧ Web H' a n E ∧ ∃ s, K87.Two E s) (fun Q' q' => ⟨.ref ta, rfl, .int (i : Int), rfl, rfl, decide (V.int (i : Int) = V.int 0), rfl, ?_⟩) fun v H2 hv => ?_
      · cases decide (V.int (i : Int) = V.int 0) with
        | false => exact iteF (two_go (E' := E0) T1 FrS.refl q')
        | true => exact iteT (draw_go (many := 8) T1 rfl ev_c (by decide) (by decide) fun r H3 hr f3 T3 => ⟨rfl, two_go (E' := E0) T3 f3 q'⟩)
      · obtain ⟨a, n, E, rfl, f2, W2, two⟩ := hv
        have p2 : Ex H H2 := Ex.fr (p1.trans e1) f2 fun b hb => by
          rw [List.mem_singleton.mp hb]
          exact fresh_back p1 hta
        refine q_when (b := false) (et_or (a := false) (b := false) (et_not (a := true) (et_B (ev_call (ea_cons (ev_var rfl) ea_nil) (sv_right W2 two)))) fun _ => et_or (a := false) (b := false) (et_not (a := true) (et_B (ev_call (ea_cons (ev_var rfl) ea_nil) (sv_right W2 two)))) fun _ => et_not (a := true) (et_B (ev_call (ea_cons (ev_var rfl) ea_nil) (sv_right W2 two)))) (fun z => nomatch z) fun _ H3 e3 => ?_
        have W3 := W2.ex e3
        obtain ⟨b, ts, C⟩ := W3.at_
        refine s_when (b := false) (et_not (a := true) (et_B (ev_callP (ep_cutWeb (K := K) W3 C (ev_var rfl)) fun v H4 e4 hv => ?_))) (fun z => nomatch z) fun _ H4 e4 => ⟨_, _, _, (p2.trans e3).trans e4, rfl⟩
        obtain ⟨a', rfl, W4⟩ := hv
        obtain ⟨sd, hsd⟩ := two
        exact ev_call (ea_cons ev_c ea_nil) (sv_right W4 ⟨sd, fun x hx => hsd x (List.mem_of_mem_take hx)⟩)
    · obtain ⟨x1, x2, x3, p1, rfl⟩ := p
      exact s_ret ev_c fun H2 e2 => k H2 (p1.trans e2)
end
end K87W
/-! all walks joined (printed by wip/gen/fin.py) -/
namespace K87W
open PySem PySem.Spec PyProof.Rows L2 Evl K87X
theorem all_mk {l : PySem.W.OpenLaw} {w : World} {K : PySem.W.Frag} {h : Heap} {mg : Str → Option Value} {fa : Addr} (X : K.In h) (G : h.Ns mainGlobals mg) (hfa : mg "law" = some (.ref fa))
    {tk_SIDES : Tok}
    {tk_RING : Tok}
    {tk_HUE : Tok}
    {tk_DROP : Tok}
    {tk_MOVE : Tok}
    {f_is_number : Addr} {oc_is_number kV_is_number dc_is_number pm_is_number cd_is_number ct_is_number : Value} {od_is_number an_is_number : Option Addr} {sl_is_number : Array (Option Value)}
    {f_look_place : Addr} {oc_look_place kV_look_place dc_look_place pm_look_place cd_look_place ct_look_place : Value} {od_look_place an_look_place : Option Addr} {sl_look_place : Array (Option Value)}
    {f_look_tie : Addr} {oc_look_tie kV_look_tie dc_look_tie pm_look_tie cd_look_tie ct_look_tie : Value} {od_look_tie an_look_tie : Option Addr} {sl_look_tie : Array (Option Value)}
    {f_ties_at : Addr} {oc_ties_at kV_ties_at dc_ties_at pm_ties_at cd_ties_at ct_ties_at : Value} {od_ties_at an_ties_at : Option Addr} {sl_ties_at : Array (Option Value)}
    {f_count_at : Addr} {oc_count_at kV_count_at dc_count_at pm_count_at cd_count_at ct_count_at : Value} {od_count_at an_count_at : Option Addr} {sl_count_at : Array (Option Value)}
    {f_far_end : Addr} {oc_far_end kV_far_end dc_far_end pm_far_end cd_far_end ct_far_end : Value} {od_far_end an_far_end : Option Addr} {sl_far_end : Array (Option Value)}
    {f_only : Addr} {oc_only kV_only dc_only pm_only cd_only ct_only : Value} {od_only an_only : Option Addr} {sl_only : Array (Option Value)}
    {f_ties_by_place : Addr} {oc_ties_by_place kV_ties_by_place dc_ties_by_place pm_ties_by_place cd_ties_by_place ct_ties_by_place : Value} {od_ties_by_place an_ties_by_place : Option Addr} {sl_ties_by_place : Array (Option Value)}
    {f_most_at : Addr} {oc_most_at kV_most_at dc_most_at pm_most_at cd_most_at ct_most_at : Value} {od_most_at an_most_at : Option Addr} {sl_most_at : Array (Option Value)}
    {f_two_sides : Addr} {oc_two_sides kV_two_sides dc_two_sides pm_two_sides cd_two_sides ct_two_sides : Value} {od_two_sides an_two_sides : Option Addr} {sl_two_sides : Array (Option Value)}
    {f_sides_of : Addr} {oc_sides_of kV_sides_of dc_sides_of pm_sides_of cd_sides_of ct_sides_of : Value} {od_sides_of an_sides_of : Option Addr} {sl_sides_of : Array (Option Value)}
    {f_pairs_by_place : Addr} {oc_pairs_by_place kV_pairs_by_place dc_pairs_by_place pm_pairs_by_place cd_pairs_by_place ct_pairs_by_place : Value} {od_pairs_by_place an_pairs_by_place : Option Addr} {sl_pairs_by_place : Array (Option Value)}
    {f_greatest_pairs : Addr} {oc_greatest_pairs kV_greatest_pairs dc_greatest_pairs pm_greatest_pairs cd_greatest_pairs ct_greatest_pairs : Value} {od_greatest_pairs an_greatest_pairs : Option Addr} {sl_greatest_pairs : Array (Option Value)}
    {f_cover_of : Addr} {oc_cover_of kV_cover_of dc_cover_of pm_cover_of cd_cover_of ct_cover_of : Value} {od_cover_of an_cover_of : Option Addr} {sl_cover_of : Array (Option Value)}
    {f_pairing : Addr} {oc_pairing kV_pairing dc_pairing pm_pairing cd_pairing ct_pairing : Value} {od_pairing an_pairing : Option Addr} {sl_pairing : Array (Option Value)}
    {f_full_pairing : Addr} {oc_full_pairing kV_full_pairing dc_full_pairing pm_full_pairing cd_full_pairing ct_full_pairing : Value} {od_full_pairing an_full_pairing : Option Addr} {sl_full_pairing : Array (Option Value)}
    {f_are_rising : Addr} {oc_are_rising kV_are_rising dc_are_rising pm_are_rising cd_are_rising ct_are_rising : Value} {od_are_rising an_are_rising : Option Addr} {sl_are_rising : Array (Option Value)}
    {f_shows_pairing : Addr} {oc_shows_pairing kV_shows_pairing dc_shows_pairing pm_shows_pairing cd_shows_pairing ct_shows_pairing : Value} {od_shows_pairing an_shows_pairing : Option Addr} {sl_shows_pairing : Array (Option Value)}
    {f_evened_ties : Addr} {oc_evened_ties kV_evened_ties dc_evened_ties pm_evened_ties cd_evened_ties ct_evened_ties : Value} {od_evened_ties an_evened_ties : Option Addr} {sl_evened_ties : Array (Option Value)}
    {f_turns_of : Addr} {oc_turns_of kV_turns_of dc_turns_of pm_turns_of cd_turns_of ct_turns_of : Value} {od_turns_of an_turns_of : Option Addr} {sl_turns_of : Array (Option Value)}
    {f_halves : Addr} {oc_halves kV_halves dc_halves pm_halves cd_halves ct_halves : Value} {od_halves an_halves : Option Addr} {sl_halves : Array (Option Value)}
    {f_is_hue : Addr} {oc_is_hue kV_is_hue dc_is_hue pm_is_hue cd_is_hue ct_is_hue : Value} {od_is_hue an_is_hue : Option Addr} {sl_is_hue : Array (Option Value)}
    {f_clash_of : Addr} {oc_clash_of kV_clash_of dc_clash_of pm_clash_of cd_clash_of ct_clash_of : Value} {od_clash_of an_clash_of : Option Addr} {sl_clash_of : Array (Option Value)}
    {f_is_hueing : Addr} {oc_is_hueing kV_is_hueing dc_is_hueing pm_is_hueing cd_is_hueing ct_is_hueing : Value} {od_is_hueing an_is_hueing : Option Addr} {sl_is_hueing : Array (Option Value)}
    {f_is_whole : Addr} {oc_is_whole kV_is_whole dc_is_whole pm_is_whole cd_is_whole ct_is_whole : Value} {od_is_whole an_is_whole : Option Addr} {sl_is_whole : Array (Option Value)}
    {f_hues_at : Addr} {oc_hues_at kV_hues_at dc_hues_at pm_hues_at cd_hues_at ct_hues_at : Value} {od_hues_at an_hues_at : Option Addr} {sl_hues_at : Array (Option Value)}
    {f_free_at : Addr} {oc_free_at kV_free_at dc_free_at pm_free_at cd_free_at ct_free_at : Value} {od_free_at an_free_at : Option Addr} {sl_free_at : Array (Option Value)}
    {f_tie_of : Addr} {oc_tie_of kV_tie_of dc_tie_of pm_tie_of cd_tie_of ct_tie_of : Value} {od_tie_of an_tie_of : Option Addr} {sl_tie_of : Array (Option Value)}
    {f_look_hues : Addr} {oc_look_hues kV_look_hues dc_look_hues pm_look_hues cd_look_hues ct_look_hues : Value} {od_look_hues an_look_hues : Option Addr} {sl_look_hues : Array (Option Value)}
    {f_row_from : Addr} {oc_row_from kV_row_from dc_row_from pm_row_from cd_row_from ct_row_from : Value} {od_row_from an_row_from : Option Addr} {sl_row_from : Array (Option Value)}
    {f_other_of : Addr} {oc_other_of kV_other_of dc_other_of pm_other_of cd_other_of ct_other_of : Value} {od_other_of an_other_of : Option Addr} {sl_other_of : Array (Option Value)}
    {f_exchanged : Addr} {oc_exchanged kV_exchanged dc_exchanged pm_exchanged cd_exchanged ct_exchanged : Value} {od_exchanged an_exchanged : Option Addr} {sl_exchanged : Array (Option Value)}
    {f_look_so : Addr} {oc_look_so kV_look_so dc_look_so pm_look_so cd_look_so ct_look_so : Value} {od_look_so an_look_so : Option Addr} {sl_look_so : Array (Option Value)}
    {f_is_tie : Addr} {oc_is_tie kV_is_tie dc_is_tie pm_is_tie cd_is_tie ct_is_tie : Value} {od_is_tie an_is_tie : Option Addr} {sl_is_tie : Array (Option Value)}
    {f_with_hue : Addr} {oc_with_hue kV_with_hue dc_with_hue pm_with_hue cd_with_hue ct_with_hue : Value} {od_with_hue an_with_hue : Option Addr} {sl_with_hue : Array (Option Value)}
    {f_row_turned : Addr} {oc_row_turned kV_row_turned dc_row_turned pm_row_turned cd_row_turned ct_row_turned : Value} {od_row_turned an_row_turned : Option Addr} {sl_row_turned : Array (Option Value)}
    {f_made_by : Addr} {oc_made_by kV_made_by dc_made_by pm_made_by cd_made_by ct_made_by : Value} {od_made_by an_made_by : Option Addr} {sl_made_by : Array (Option Value)}
    {f_done_step : Addr} {oc_done_step kV_done_step dc_done_step pm_done_step cd_done_step ct_done_step : Value} {od_done_step an_done_step : Option Addr} {sl_done_step : Array (Option Value)}
    {f_played : Addr} {oc_played kV_played dc_played pm_played cd_played ct_played : Value} {od_played an_played : Option Addr} {sl_played : Array (Option Value)}
    {f_steps_for : Addr} {oc_steps_for kV_steps_for dc_steps_for pm_steps_for cd_steps_for ct_steps_for : Value} {od_steps_for an_steps_for : Option Addr} {sl_steps_for : Array (Option Value)}
    {f_by_rows : Addr} {oc_by_rows kV_by_rows dc_by_rows pm_by_rows cd_by_rows ct_by_rows : Value} {od_by_rows an_by_rows : Option Addr} {sl_by_rows : Array (Option Value)}
    {f_by_pairings : Addr} {oc_by_pairings kV_by_pairings dc_by_pairings pm_by_pairings cd_by_pairings ct_by_pairings : Value} {od_by_pairings an_by_pairings : Option Addr} {sl_by_pairings : Array (Option Value)}
    {f_parts_of : Addr} {oc_parts_of kV_parts_of dc_parts_of pm_parts_of cd_parts_of ct_parts_of : Value} {od_parts_of an_parts_of : Option Addr} {sl_parts_of : Array (Option Value)}
    {f_by_halves : Addr} {oc_by_halves kV_by_halves dc_by_halves pm_by_halves cd_by_halves ct_by_halves : Value} {od_by_halves an_by_halves : Option Addr} {sl_by_halves : Array (Option Value)}
    {f_law_tape : Addr} {oc_law_tape kV_law_tape dc_law_tape pm_law_tape cd_law_tape ct_law_tape : Value} {od_law_tape an_law_tape : Option Addr} {sl_law_tape : Array (Option Value)}
    {f_law_draw : Addr} {oc_law_draw kV_law_draw dc_law_draw pm_law_draw cd_law_draw ct_law_draw : Value} {od_law_draw an_law_draw : Option Addr} {sl_law_draw : Array (Option Value)}
    {f_law_two_once : Addr} {oc_law_two_once kV_law_two_once dc_law_two_once pm_law_two_once cd_law_two_once ct_law_two_once : Value} {od_law_two_once an_law_two_once : Option Addr} {sl_law_two_once : Array (Option Value)}
    {f_law_two_sided : Addr} {oc_law_two_sided kV_law_two_sided dc_law_two_sided pm_law_two_sided cd_law_two_sided ct_law_two_sided : Value} {od_law_two_sided an_law_two_sided : Option Addr} {sl_law_two_sided : Array (Option Value)}
    {f_law_steps_right : Addr} {oc_law_steps_right kV_law_steps_right dc_law_steps_right pm_law_steps_right cd_law_steps_right ct_law_steps_right : Value} {od_law_steps_right an_law_steps_right : Option Addr} {sl_law_steps_right : Array (Option Value)}
    {f_law_pairings_taken : Addr} {oc_law_pairings_taken kV_law_pairings_taken dc_law_pairings_taken pm_law_pairings_taken cd_law_pairings_taken ct_law_pairings_taken : Value} {od_law_pairings_taken an_law_pairings_taken : Option Addr} {sl_law_pairings_taken : Array (Option Value)}
    {f_law_pairing_right : Addr} {oc_law_pairing_right kV_law_pairing_right dc_law_pairing_right pm_law_pairing_right cd_law_pairing_right ct_law_pairing_right : Value} {od_law_pairing_right an_law_pairing_right : Option Addr} {sl_law_pairing_right : Array (Option Value)}
    {f_law_halves_right : Addr} {oc_law_halves_right kV_law_halves_right dc_law_halves_right pm_law_halves_right cd_law_halves_right ct_law_halves_right : Value} {od_law_halves_right an_law_halves_right : Option Addr} {sl_law_halves_right : Array (Option Value)}
    {C1 : Addr}
    {C2 : Addr}
    {f_m_go_from : Addr} {oc_m_go_from kV_m_go_from dc_m_go_from pm_m_go_from cd_m_go_from ct_m_go_from : Value} {od_m_go_from an_m_go_from : Option Addr} {sl_m_go_from : Array (Option Value)}
    {f_m_mate : Addr} {oc_m_mate kV_m_mate dc_m_mate pm_m_mate cd_m_mate ct_m_mate : Value} {od_m_mate an_m_mate : Option Addr} {sl_m_mate : Array (Option Value)}
    {f_m_went_on : Addr} {oc_m_went_on kV_m_went_on dc_m_went_on pm_m_went_on cd_m_went_on ct_m_went_on : Value} {od_m_went_on an_m_went_on : Option Addr} {sl_m_went_on : Array (Option Value)}
    {f_m_sought : Addr} {oc_m_sought kV_m_sought dc_m_sought pm_m_sought cd_m_sought ct_m_sought : Value} {od_m_sought an_m_sought : Option Addr} {sl_m_sought : Array (Option Value)}
    {f_m_turned : Addr} {oc_m_turned kV_m_turned dc_m_turned pm_m_turned cd_m_turned ct_m_turned : Value} {od_m_turned an_m_turned : Option Addr} {sl_m_turned : Array (Option Value)}
    {f_m_ties : Addr} {oc_m_ties kV_m_ties dc_m_ties pm_m_ties cd_m_ties ct_m_ties : Value} {od_m_ties an_m_ties : Option Addr} {sl_m_ties : Array (Option Value)}
    {f_m_Going : Addr} {oc_m_Going kV_m_Going dc_m_Going pm_m_Going cd_m_Going ct_m_Going : Value} {od_m_Going an_m_Going : Option Addr} {sl_m_Going : Array (Option Value)}
    {f_m_Pairs : Addr} {oc_m_Pairs kV_m_Pairs dc_m_Pairs pm_m_Pairs cd_m_Pairs ct_m_Pairs : Value} {od_m_Pairs an_m_Pairs : Option Addr} {sl_m_Pairs : Array (Option Value)}
    {f_law : Addr} {oc_law kV_law dc_law pm_law cd_law ct_law : Value} {od_law an_law : Option Addr} {sl_law : Array (Option Value)}
    (t_len : PySem.W.nsIn K mainGlobals "len" = some none)
    (t_isinstance : PySem.W.nsIn K mainGlobals "isinstance" = some none)
    (t_int : PySem.W.nsIn K mainGlobals "int" = some none)
    (t_bool : PySem.W.nsIn K mainGlobals "bool" = some none)
    (t_list : PySem.W.nsIn K mainGlobals "list" = some none)
    (t_tuple : PySem.W.nsIn K mainGlobals "tuple" = some none)
    (t_range : PySem.W.nsIn K mainGlobals "range" = some none)
    (t_enumerate : PySem.W.nsIn K mainGlobals "enumerate" = some none)
    (t_zip : PySem.W.nsIn K mainGlobals "zip" = some none)
    (t_max : PySem.W.nsIn K mainGlobals "max" = some none)
    (t_min : PySem.W.nsIn K mainGlobals "min" = some none)
    (t_sum : PySem.W.nsIn K mainGlobals "sum" = some none)
    (t_sorted : PySem.W.nsIn K mainGlobals "sorted" = some none)
    (t_set : PySem.W.nsIn K mainGlobals "set" = some none)
    (t_any : PySem.W.nsIn K mainGlobals "any" = some none)
    (t_all : PySem.W.nsIn K mainGlobals "all" = some none)
    (t_abs : PySem.W.nsIn K mainGlobals "abs" = some none)
    (t_SIDES : PySem.W.nsIn K mainGlobals "SIDES" = some (some (.str (Str.ofString "sides") tk_SIDES)))
    (t_RING : PySem.W.nsIn K mainGlobals "RING" = some (some (.str (Str.ofString "ring") tk_RING)))
    (t_HUE : PySem.W.nsIn K mainGlobals "HUE" = some (some (.str (Str.ofString "hue") tk_HUE)))
    (t_DROP : PySem.W.nsIn K mainGlobals "DROP" = some (some (.str (Str.ofString "drop") tk_DROP)))
    (t_MOVE : PySem.W.nsIn K mainGlobals "MOVE" = some (some (.str (Str.ofString "move") tk_MOVE)))
    (a_is_number : PySem.W.nsIn K mainGlobals "is_number" = some (some (.ref f_is_number)))
    (l_is_number : K.lookup f_is_number = some ⟨oc_is_number, od_is_number, .func (PySem.W.fnOf "is_number" "is_number" (defArgs s_is_number) (defBody s_is_number) (defScope s_is_number) .none kV_is_number dc_is_number pm_is_number an_is_number cd_is_number ct_is_number), sl_is_number⟩)
    (c_is_number : PySem.W.codeIn K cd_is_number "is_number" = true)
    (k_is_number : PySem.W.keepIn K (.ref f_is_number) = true)
    (a_look_place : PySem.W.nsIn K mainGlobals "look_place" = some (some (.ref f_look_place)))
    (l_look_place : K.lookup f_look_place = some ⟨oc_look_place, od_look_place, .func (PySem.W.fnOf "look_place" "look_place" (defArgs s_look_place) (defBody s_look_place) (defScope s_look_place) .none kV_look_place dc_look_place pm_look_place an_look_place cd_look_place ct_look_place), sl_look_place⟩)
    (c_look_place : PySem.W.codeIn K cd_look_place "look_place" = true)
    (k_look_place : PySem.W.keepIn K (.ref f_look_place) = true)
    (a_look_tie : PySem.W.nsIn K mainGlobals "look_tie" = some (some (.ref f_look_tie)))
    (l_look_tie : K.lookup f_look_tie = some ⟨oc_look_tie, od_look_tie, .func (PySem.W.fnOf "look_tie" "look_tie" (defArgs s_look_tie) (defBody s_look_tie) (defScope s_look_tie) .none kV_look_tie dc_look_tie pm_look_tie an_look_tie cd_look_tie ct_look_tie), sl_look_tie⟩)
    (c_look_tie : PySem.W.codeIn K cd_look_tie "look_tie" = true)
    (k_look_tie : PySem.W.keepIn K (.ref f_look_tie) = true)
    (a_ties_at : PySem.W.nsIn K mainGlobals "ties_at" = some (some (.ref f_ties_at)))
    (l_ties_at : K.lookup f_ties_at = some ⟨oc_ties_at, od_ties_at, .func (PySem.W.fnOf "ties_at" "ties_at" (defArgs s_ties_at) (defBody s_ties_at) (defScope s_ties_at) .none kV_ties_at dc_ties_at pm_ties_at an_ties_at cd_ties_at ct_ties_at), sl_ties_at⟩)
    (c_ties_at : PySem.W.codeIn K cd_ties_at "ties_at" = true)
    (k_ties_at : PySem.W.keepIn K (.ref f_ties_at) = true)
    (a_count_at : PySem.W.nsIn K mainGlobals "count_at" = some (some (.ref f_count_at)))
    (l_count_at : K.lookup f_count_at = some ⟨oc_count_at, od_count_at, .func (PySem.W.fnOf "count_at" "count_at" (defArgs s_count_at) (defBody s_count_at) (defScope s_count_at) .none kV_count_at dc_count_at pm_count_at an_count_at cd_count_at ct_count_at), sl_count_at⟩)
    (c_count_at : PySem.W.codeIn K cd_count_at "count_at" = true)
    (k_count_at : PySem.W.keepIn K (.ref f_count_at) = true)
    (a_far_end : PySem.W.nsIn K mainGlobals "far_end" = some (some (.ref f_far_end)))
    (l_far_end : K.lookup f_far_end = some ⟨oc_far_end, od_far_end, .func (PySem.W.fnOf "far_end" "far_end" (defArgs s_far_end) (defBody s_far_end) (defScope s_far_end) .none kV_far_end dc_far_end pm_far_end an_far_end cd_far_end ct_far_end), sl_far_end⟩)
    (c_far_end : PySem.W.codeIn K cd_far_end "far_end" = true)
    (k_far_end : PySem.W.keepIn K (.ref f_far_end) = true)
    (a_only : PySem.W.nsIn K mainGlobals "only" = some (some (.ref f_only)))
    (l_only : K.lookup f_only = some ⟨oc_only, od_only, .func (PySem.W.fnOf "only" "only" (defArgs s_only) (defBody s_only) (defScope s_only) .none kV_only dc_only pm_only an_only cd_only ct_only), sl_only⟩)
    (c_only : PySem.W.codeIn K cd_only "only" = true)
    (k_only : PySem.W.keepIn K (.ref f_only) = true)
    (a_ties_by_place : PySem.W.nsIn K mainGlobals "ties_by_place" = some (some (.ref f_ties_by_place)))
    (l_ties_by_place : K.lookup f_ties_by_place = some ⟨oc_ties_by_place, od_ties_by_place, .func (PySem.W.fnOf "ties_by_place" "ties_by_place" (defArgs s_ties_by_place) (defBody s_ties_by_place) (defScope s_ties_by_place) .none kV_ties_by_place dc_ties_by_place pm_ties_by_place an_ties_by_place cd_ties_by_place ct_ties_by_place), sl_ties_by_place⟩)
    (c_ties_by_place : PySem.W.codeIn K cd_ties_by_place "ties_by_place" = true)
    (k_ties_by_place : PySem.W.keepIn K (.ref f_ties_by_place) = true)
    (a_most_at : PySem.W.nsIn K mainGlobals "most_at" = some (some (.ref f_most_at)))
    (l_most_at : K.lookup f_most_at = some ⟨oc_most_at, od_most_at, .func (PySem.W.fnOf "most_at" "most_at" (defArgs s_most_at) (defBody s_most_at) (defScope s_most_at) .none kV_most_at dc_most_at pm_most_at an_most_at cd_most_at ct_most_at), sl_most_at⟩)
    (c_most_at : PySem.W.codeIn K cd_most_at "most_at" = true)
    (k_most_at : PySem.W.keepIn K (.ref f_most_at) = true)
    (a_two_sides : PySem.W.nsIn K mainGlobals "two_sides" = some (some (.ref f_two_sides)))
    (l_two_sides : K.lookup f_two_sides = some ⟨oc_two_sides, od_two_sides, .func (PySem.W.fnOf "two_sides" "two_sides" (defArgs s_two_sides) (defBody s_two_sides) (defScope s_two_sides) .none kV_two_sides dc_two_sides pm_two_sides an_two_sides cd_two_sides ct_two_sides), sl_two_sides⟩)
    (c_two_sides : PySem.W.codeIn K cd_two_sides "two_sides" = true)
    (k_two_sides : PySem.W.keepIn K (.ref f_two_sides) = true)
    (a_sides_of : PySem.W.nsIn K mainGlobals "sides_of" = some (some (.ref f_sides_of)))
    (l_sides_of : K.lookup f_sides_of = some ⟨oc_sides_of, od_sides_of, .func (PySem.W.fnOf "sides_of" "sides_of" (defArgs s_sides_of) (defBody s_sides_of) (defScope s_sides_of) .none kV_sides_of dc_sides_of pm_sides_of an_sides_of cd_sides_of ct_sides_of), sl_sides_of⟩)
    (c_sides_of : PySem.W.codeIn K cd_sides_of "sides_of" = true)
    (k_sides_of : PySem.W.keepIn K (.ref f_sides_of) = true)
    (a_pairs_by_place : PySem.W.nsIn K mainGlobals "pairs_by_place" = some (some (.ref f_pairs_by_place)))
    (l_pairs_by_place : K.lookup f_pairs_by_place = some ⟨oc_pairs_by_place, od_pairs_by_place, .func (PySem.W.fnOf "pairs_by_place" "pairs_by_place" (defArgs s_pairs_by_place) (defBody s_pairs_by_place) (defScope s_pairs_by_place) .none kV_pairs_by_place dc_pairs_by_place pm_pairs_by_place an_pairs_by_place cd_pairs_by_place ct_pairs_by_place), sl_pairs_by_place⟩)
    (c_pairs_by_place : PySem.W.codeIn K cd_pairs_by_place "pairs_by_place" = true)
    (k_pairs_by_place : PySem.W.keepIn K (.ref f_pairs_by_place) = true)
    (a_greatest_pairs : PySem.W.nsIn K mainGlobals "greatest_pairs" = some (some (.ref f_greatest_pairs)))
    (l_greatest_pairs : K.lookup f_greatest_pairs = some ⟨oc_greatest_pairs, od_greatest_pairs, .func (PySem.W.fnOf "greatest_pairs" "greatest_pairs" (defArgs s_greatest_pairs) (defBody s_greatest_pairs) (defScope s_greatest_pairs) .none kV_greatest_pairs dc_greatest_pairs pm_greatest_pairs an_greatest_pairs cd_greatest_pairs ct_greatest_pairs), sl_greatest_pairs⟩)
    (c_greatest_pairs : PySem.W.codeIn K cd_greatest_pairs "greatest_pairs" = true)
    (k_greatest_pairs : PySem.W.keepIn K (.ref f_greatest_pairs) = true)
    (a_cover_of : PySem.W.nsIn K mainGlobals "cover_of" = some (some (.ref f_cover_of)))
    (l_cover_of : K.lookup f_cover_of = some ⟨oc_cover_of, od_cover_of, .func (PySem.W.fnOf "cover_of" "cover_of" (defArgs s_cover_of) (defBody s_cover_of) (defScope s_cover_of) .none kV_cover_of dc_cover_of pm_cover_of an_cover_of cd_cover_of ct_cover_of), sl_cover_of⟩)
    (c_cover_of : PySem.W.codeIn K cd_cover_of "cover_of" = true)
    (k_cover_of : PySem.W.keepIn K (.ref f_cover_of) = true)
    (a_pairing : PySem.W.nsIn K mainGlobals "pairing" = some (some (.ref f_pairing)))
    (l_pairing : K.lookup f_pairing = some ⟨oc_pairing, od_pairing, .func (PySem.W.fnOf "pairing" "pairing" (defArgs s_pairing) (defBody s_pairing) (defScope s_pairing) .none kV_pairing dc_pairing pm_pairing an_pairing cd_pairing ct_pairing), sl_pairing⟩)
    (c_pairing : PySem.W.codeIn K cd_pairing "pairing" = true)
    (k_pairing : PySem.W.keepIn K (.ref f_pairing) = true)
    (a_full_pairing : PySem.W.nsIn K mainGlobals "full_pairing" = some (some (.ref f_full_pairing)))
    (l_full_pairing : K.lookup f_full_pairing = some ⟨oc_full_pairing, od_full_pairing, .func (PySem.W.fnOf "full_pairing" "full_pairing" (defArgs s_full_pairing) (defBody s_full_pairing) (defScope s_full_pairing) .none kV_full_pairing dc_full_pairing pm_full_pairing an_full_pairing cd_full_pairing ct_full_pairing), sl_full_pairing⟩)
    (c_full_pairing : PySem.W.codeIn K cd_full_pairing "full_pairing" = true)
    (k_full_pairing : PySem.W.keepIn K (.ref f_full_pairing) = true)
    (a_are_rising : PySem.W.nsIn K mainGlobals "are_rising" = some (some (.ref f_are_rising)))
    (l_are_rising : K.lookup f_are_rising = some ⟨oc_are_rising, od_are_rising, .func (PySem.W.fnOf "are_rising" "are_rising" (defArgs s_are_rising) (defBody s_are_rising) (defScope s_are_rising) .none kV_are_rising dc_are_rising pm_are_rising an_are_rising cd_are_rising ct_are_rising), sl_are_rising⟩)
    (c_are_rising : PySem.W.codeIn K cd_are_rising "are_rising" = true)
    (k_are_rising : PySem.W.keepIn K (.ref f_are_rising) = true)
    (a_shows_pairing : PySem.W.nsIn K mainGlobals "shows_pairing" = some (some (.ref f_shows_pairing)))
    (l_shows_pairing : K.lookup f_shows_pairing = some ⟨oc_shows_pairing, od_shows_pairing, .func (PySem.W.fnOf "shows_pairing" "shows_pairing" (defArgs s_shows_pairing) (defBody s_shows_pairing) (defScope s_shows_pairing) .none kV_shows_pairing dc_shows_pairing pm_shows_pairing an_shows_pairing cd_shows_pairing ct_shows_pairing), sl_shows_pairing⟩)
    (c_shows_pairing : PySem.W.codeIn K cd_shows_pairing "shows_pairing" = true)
    (k_shows_pairing : PySem.W.keepIn K (.ref f_shows_pairing) = true)
    (a_evened_ties : PySem.W.nsIn K mainGlobals "evened_ties" = some (some (.ref f_evened_ties)))
    (l_evened_ties : K.lookup f_evened_ties = some ⟨oc_evened_ties, od_evened_ties, .func (PySem.W.fnOf "evened_ties" "evened_ties" (defArgs s_evened_ties) (defBody s_evened_ties) (defScope s_evened_ties) .none kV_evened_ties dc_evened_ties pm_evened_ties an_evened_ties cd_evened_ties ct_evened_ties), sl_evened_ties⟩)
    (c_evened_ties : PySem.W.codeIn K cd_evened_ties "evened_ties" = true)
    (k_evened_ties : PySem.W.keepIn K (.ref f_evened_ties) = true)
    (a_turns_of : PySem.W.nsIn K mainGlobals "turns_of" = some (some (.ref f_turns_of)))
    (l_turns_of : K.lookup f_turns_of = some ⟨oc_turns_of, od_turns_of, .func (PySem.W.fnOf "turns_of" "turns_of" (defArgs s_turns_of) (defBody s_turns_of) (defScope s_turns_of) .none kV_turns_of dc_turns_of pm_turns_of an_turns_of cd_turns_of ct_turns_of), sl_turns_of⟩)
    (c_turns_of : PySem.W.codeIn K cd_turns_of "turns_of" = true)
    (k_turns_of : PySem.W.keepIn K (.ref f_turns_of) = true)
    (a_halves : PySem.W.nsIn K mainGlobals "halves" = some (some (.ref f_halves)))
    (l_halves : K.lookup f_halves = some ⟨oc_halves, od_halves, .func (PySem.W.fnOf "halves" "halves" (defArgs s_halves) (defBody s_halves) (defScope s_halves) .none kV_halves dc_halves pm_halves an_halves cd_halves ct_halves), sl_halves⟩)
    (c_halves : PySem.W.codeIn K cd_halves "halves" = true)
    (k_halves : PySem.W.keepIn K (.ref f_halves) = true)
    (a_is_hue : PySem.W.nsIn K mainGlobals "is_hue" = some (some (.ref f_is_hue)))
    (l_is_hue : K.lookup f_is_hue = some ⟨oc_is_hue, od_is_hue, .func (PySem.W.fnOf "is_hue" "is_hue" (defArgs s_is_hue) (defBody s_is_hue) (defScope s_is_hue) .none kV_is_hue dc_is_hue pm_is_hue an_is_hue cd_is_hue ct_is_hue), sl_is_hue⟩)
    (c_is_hue : PySem.W.codeIn K cd_is_hue "is_hue" = true)
    (k_is_hue : PySem.W.keepIn K (.ref f_is_hue) = true)
    (a_clash_of : PySem.W.nsIn K mainGlobals "clash_of" = some (some (.ref f_clash_of)))
    (l_clash_of : K.lookup f_clash_of = some ⟨oc_clash_of, od_clash_of, .func (PySem.W.fnOf "clash_of" "clash_of" (defArgs s_clash_of) (defBody s_clash_of) (defScope s_clash_of) .none kV_clash_of dc_clash_of pm_clash_of an_clash_of cd_clash_of ct_clash_of), sl_clash_of⟩)
    (c_clash_of : PySem.W.codeIn K cd_clash_of "clash_of" = true)
    (k_clash_of : PySem.W.keepIn K (.ref f_clash_of) = true)
    (a_is_hueing : PySem.W.nsIn K mainGlobals "is_hueing" = some (some (.ref f_is_hueing)))
    (l_is_hueing : K.lookup f_is_hueing = some ⟨oc_is_hueing, od_is_hueing, .func (PySem.W.fnOf "is_hueing" "is_hueing" (defArgs s_is_hueing) (defBody s_is_hueing) (defScope s_is_hueing) .none kV_is_hueing dc_is_hueing pm_is_hueing an_is_hueing cd_is_hueing ct_is_hueing), sl_is_hueing⟩)
    (c_is_hueing : PySem.W.codeIn K cd_is_hueing "is_hueing" = true)
    (k_is_hueing : PySem.W.keepIn K (.ref f_is_hueing) = true)
    (a_is_whole : PySem.W.nsIn K mainGlobals "is_whole" = some (some (.ref f_is_whole)))
    (l_is_whole : K.lookup f_is_whole = some ⟨oc_is_whole, od_is_whole, .func (PySem.W.fnOf "is_whole" "is_whole" (defArgs s_is_whole) (defBody s_is_whole) (defScope s_is_whole) .none kV_is_whole dc_is_whole pm_is_whole an_is_whole cd_is_whole ct_is_whole), sl_is_whole⟩)
    (c_is_whole : PySem.W.codeIn K cd_is_whole "is_whole" = true)
    (k_is_whole : PySem.W.keepIn K (.ref f_is_whole) = true)
    (a_hues_at : PySem.W.nsIn K mainGlobals "hues_at" = some (some (.ref f_hues_at)))
    (l_hues_at : K.lookup f_hues_at = some ⟨oc_hues_at, od_hues_at, .func (PySem.W.fnOf "hues_at" "hues_at" (defArgs s_hues_at) (defBody s_hues_at) (defScope s_hues_at) .none kV_hues_at dc_hues_at pm_hues_at an_hues_at cd_hues_at ct_hues_at), sl_hues_at⟩)
    (c_hues_at : PySem.W.codeIn K cd_hues_at "hues_at" = true)
    (k_hues_at : PySem.W.keepIn K (.ref f_hues_at) = true)
    (a_free_at : PySem.W.nsIn K mainGlobals "free_at" = some (some (.ref f_free_at)))
    (l_free_at : K.lookup f_free_at = some ⟨oc_free_at, od_free_at, .func (PySem.W.fnOf "free_at" "free_at" (defArgs s_free_at) (defBody s_free_at) (defScope s_free_at) .none kV_free_at dc_free_at pm_free_at an_free_at cd_free_at ct_free_at), sl_free_at⟩)
    (c_free_at : PySem.W.codeIn K cd_free_at "free_at" = true)
    (k_free_at : PySem.W.keepIn K (.ref f_free_at) = true)
    (a_tie_of : PySem.W.nsIn K mainGlobals "tie_of" = some (some (.ref f_tie_of)))
    (l_tie_of : K.lookup f_tie_of = some ⟨oc_tie_of, od_tie_of, .func (PySem.W.fnOf "tie_of" "tie_of" (defArgs s_tie_of) (defBody s_tie_of) (defScope s_tie_of) .none kV_tie_of dc_tie_of pm_tie_of an_tie_of cd_tie_of ct_tie_of), sl_tie_of⟩)
    (c_tie_of : PySem.W.codeIn K cd_tie_of "tie_of" = true)
    (k_tie_of : PySem.W.keepIn K (.ref f_tie_of) = true)
    (a_look_hues : PySem.W.nsIn K mainGlobals "look_hues" = some (some (.ref f_look_hues)))
    (l_look_hues : K.lookup f_look_hues = some ⟨oc_look_hues, od_look_hues, .func (PySem.W.fnOf "look_hues" "look_hues" (defArgs s_look_hues) (defBody s_look_hues) (defScope s_look_hues) .none kV_look_hues dc_look_hues pm_look_hues an_look_hues cd_look_hues ct_look_hues), sl_look_hues⟩)
    (c_look_hues : PySem.W.codeIn K cd_look_hues "look_hues" = true)
    (k_look_hues : PySem.W.keepIn K (.ref f_look_hues) = true)
    (a_row_from : PySem.W.nsIn K mainGlobals "row_from" = some (some (.ref f_row_from)))
    (l_row_from : K.lookup f_row_from = some ⟨oc_row_from, od_row_from, .func (PySem.W.fnOf "row_from" "row_from" (defArgs s_row_from) (defBody s_row_from) (defScope s_row_from) .none kV_row_from dc_row_from pm_row_from an_row_from cd_row_from ct_row_from), sl_row_from⟩)
    (c_row_from : PySem.W.codeIn K cd_row_from "row_from" = true)
    (k_row_from : PySem.W.keepIn K (.ref f_row_from) = true)
    (a_other_of : PySem.W.nsIn K mainGlobals "other_of" = some (some (.ref f_other_of)))
    (l_other_of : K.lookup f_other_of = some ⟨oc_other_of, od_other_of, .func (PySem.W.fnOf "other_of" "other_of" (defArgs s_other_of) (defBody s_other_of) (defScope s_other_of) .none kV_other_of dc_other_of pm_other_of an_other_of cd_other_of ct_other_of), sl_other_of⟩)
    (c_other_of : PySem.W.codeIn K cd_other_of "other_of" = true)
    (k_other_of : PySem.W.keepIn K (.ref f_other_of) = true)
    (a_exchanged : PySem.W.nsIn K mainGlobals "exchanged" = some (some (.ref f_exchanged)))
    (l_exchanged : K.lookup f_exchanged = some ⟨oc_exchanged, od_exchanged, .func (PySem.W.fnOf "exchanged" "exchanged" (defArgs s_exchanged) (defBody s_exchanged) (defScope s_exchanged) .none kV_exchanged dc_exchanged pm_exchanged an_exchanged cd_exchanged ct_exchanged), sl_exchanged⟩)
    (c_exchanged : PySem.W.codeIn K cd_exchanged "exchanged" = true)
    (k_exchanged : PySem.W.keepIn K (.ref f_exchanged) = true)
    (a_look_so : PySem.W.nsIn K mainGlobals "look_so" = some (some (.ref f_look_so)))
    (l_look_so : K.lookup f_look_so = some ⟨oc_look_so, od_look_so, .func (PySem.W.fnOf "look_so" "look_so" (defArgs s_look_so) (defBody s_look_so) (defScope s_look_so) .none kV_look_so dc_look_so pm_look_so an_look_so cd_look_so ct_look_so), sl_look_so⟩)
    (c_look_so : PySem.W.codeIn K cd_look_so "look_so" = true)
    (k_look_so : PySem.W.keepIn K (.ref f_look_so) = true)
    (a_is_tie : PySem.W.nsIn K mainGlobals "is_tie" = some (some (.ref f_is_tie)))
    (l_is_tie : K.lookup f_is_tie = some ⟨oc_is_tie, od_is_tie, .func (PySem.W.fnOf "is_tie" "is_tie" (defArgs s_is_tie) (defBody s_is_tie) (defScope s_is_tie) .none kV_is_tie dc_is_tie pm_is_tie an_is_tie cd_is_tie ct_is_tie), sl_is_tie⟩)
    (c_is_tie : PySem.W.codeIn K cd_is_tie "is_tie" = true)
    (k_is_tie : PySem.W.keepIn K (.ref f_is_tie) = true)
    (a_with_hue : PySem.W.nsIn K mainGlobals "with_hue" = some (some (.ref f_with_hue)))
    (l_with_hue : K.lookup f_with_hue = some ⟨oc_with_hue, od_with_hue, .func (PySem.W.fnOf "with_hue" "with_hue" (defArgs s_with_hue) (defBody s_with_hue) (defScope s_with_hue) .none kV_with_hue dc_with_hue pm_with_hue an_with_hue cd_with_hue ct_with_hue), sl_with_hue⟩)
    (c_with_hue : PySem.W.codeIn K cd_with_hue "with_hue" = true)
    (k_with_hue : PySem.W.keepIn K (.ref f_with_hue) = true)
    (a_row_turned : PySem.W.nsIn K mainGlobals "row_turned" = some (some (.ref f_row_turned)))
    (l_row_turned : K.lookup f_row_turned = some ⟨oc_row_turned, od_row_turned, .func (PySem.W.fnOf "row_turned" "row_turned" (defArgs s_row_turned) (defBody s_row_turned) (defScope s_row_turned) .none kV_row_turned dc_row_turned pm_row_turned an_row_turned cd_row_turned ct_row_turned), sl_row_turned⟩)
    (c_row_turned : PySem.W.codeIn K cd_row_turned "row_turned" = true)
    (k_row_turned : PySem.W.keepIn K (.ref f_row_turned) = true)
    (a_made_by : PySem.W.nsIn K mainGlobals "made_by" = some (some (.ref f_made_by)))
    (l_made_by : K.lookup f_made_by = some ⟨oc_made_by, od_made_by, .func (PySem.W.fnOf "made_by" "made_by" (defArgs s_made_by) (defBody s_made_by) (defScope s_made_by) .none kV_made_by dc_made_by pm_made_by an_made_by cd_made_by ct_made_by), sl_made_by⟩)
    (c_made_by : PySem.W.codeIn K cd_made_by "made_by" = true)
    (k_made_by : PySem.W.keepIn K (.ref f_made_by) = true)
    (a_done_step : PySem.W.nsIn K mainGlobals "done_step" = some (some (.ref f_done_step)))
    (l_done_step : K.lookup f_done_step = some ⟨oc_done_step, od_done_step, .func (PySem.W.fnOf "done_step" "done_step" (defArgs s_done_step) (defBody s_done_step) (defScope s_done_step) .none kV_done_step dc_done_step pm_done_step an_done_step cd_done_step ct_done_step), sl_done_step⟩)
    (c_done_step : PySem.W.codeIn K cd_done_step "done_step" = true)
    (k_done_step : PySem.W.keepIn K (.ref f_done_step) = true)
    (a_played : PySem.W.nsIn K mainGlobals "played" = some (some (.ref f_played)))
    (l_played : K.lookup f_played = some ⟨oc_played, od_played, .func (PySem.W.fnOf "played" "played" (defArgs s_played) (defBody s_played) (defScope s_played) .none kV_played dc_played pm_played an_played cd_played ct_played), sl_played⟩)
    (c_played : PySem.W.codeIn K cd_played "played" = true)
    (k_played : PySem.W.keepIn K (.ref f_played) = true)
    (a_steps_for : PySem.W.nsIn K mainGlobals "steps_for" = some (some (.ref f_steps_for)))
    (l_steps_for : K.lookup f_steps_for = some ⟨oc_steps_for, od_steps_for, .func (PySem.W.fnOf "steps_for" "steps_for" (defArgs s_steps_for) (defBody s_steps_for) (defScope s_steps_for) .none kV_steps_for dc_steps_for pm_steps_for an_steps_for cd_steps_for ct_steps_for), sl_steps_for⟩)
    (c_steps_for : PySem.W.codeIn K cd_steps_for "steps_for" = true)
    (k_steps_for : PySem.W.keepIn K (.ref f_steps_for) = true)
    (a_by_rows : PySem.W.nsIn K mainGlobals "by_rows" = some (some (.ref f_by_rows)))
    (l_by_rows : K.lookup f_by_rows = some ⟨oc_by_rows, od_by_rows, .func (PySem.W.fnOf "by_rows" "by_rows" (defArgs s_by_rows) (defBody s_by_rows) (defScope s_by_rows) .none kV_by_rows dc_by_rows pm_by_rows an_by_rows cd_by_rows ct_by_rows), sl_by_rows⟩)
    (c_by_rows : PySem.W.codeIn K cd_by_rows "by_rows" = true)
    (k_by_rows : PySem.W.keepIn K (.ref f_by_rows) = true)
    (a_by_pairings : PySem.W.nsIn K mainGlobals "by_pairings" = some (some (.ref f_by_pairings)))
    (l_by_pairings : K.lookup f_by_pairings = some ⟨oc_by_pairings, od_by_pairings, .func (PySem.W.fnOf "by_pairings" "by_pairings" (defArgs s_by_pairings) (defBody s_by_pairings) (defScope s_by_pairings) .none kV_by_pairings dc_by_pairings pm_by_pairings an_by_pairings cd_by_pairings ct_by_pairings), sl_by_pairings⟩)
    (c_by_pairings : PySem.W.codeIn K cd_by_pairings "by_pairings" = true)
    (k_by_pairings : PySem.W.keepIn K (.ref f_by_pairings) = true)
    (a_parts_of : PySem.W.nsIn K mainGlobals "parts_of" = some (some (.ref f_parts_of)))
    (l_parts_of : K.lookup f_parts_of = some ⟨oc_parts_of, od_parts_of, .func (PySem.W.fnOf "parts_of" "parts_of" (defArgs s_parts_of) (defBody s_parts_of) (defScope s_parts_of) .none kV_parts_of dc_parts_of pm_parts_of an_parts_of cd_parts_of ct_parts_of), sl_parts_of⟩)
    (c_parts_of : PySem.W.codeIn K cd_parts_of "parts_of" = true)
    (k_parts_of : PySem.W.keepIn K (.ref f_parts_of) = true)
    (a_by_halves : PySem.W.nsIn K mainGlobals "by_halves" = some (some (.ref f_by_halves)))
    (l_by_halves : K.lookup f_by_halves = some ⟨oc_by_halves, od_by_halves, .func (PySem.W.fnOf "by_halves" "by_halves" (defArgs s_by_halves) (defBody s_by_halves) (defScope s_by_halves) .none kV_by_halves dc_by_halves pm_by_halves an_by_halves cd_by_halves ct_by_halves), sl_by_halves⟩)
    (c_by_halves : PySem.W.codeIn K cd_by_halves "by_halves" = true)
    (k_by_halves : PySem.W.keepIn K (.ref f_by_halves) = true)
    (a_law_tape : PySem.W.nsIn K mainGlobals "_law_tape" = some (some (.ref f_law_tape)))
    (l_law_tape : K.lookup f_law_tape = some ⟨oc_law_tape, od_law_tape, .func (PySem.W.fnOf "_law_tape" "_law_tape" (defArgs s__law_tape) (defBody s__law_tape) (defScope s__law_tape) .none kV_law_tape dc_law_tape pm_law_tape an_law_tape cd_law_tape ct_law_tape), sl_law_tape⟩)
    (c_law_tape : PySem.W.codeIn K cd_law_tape "_law_tape" = true)
    (k_law_tape : PySem.W.keepIn K (.ref f_law_tape) = true)
    (a_law_draw : PySem.W.nsIn K mainGlobals "_law_draw" = some (some (.ref f_law_draw)))
    (l_law_draw : K.lookup f_law_draw = some ⟨oc_law_draw, od_law_draw, .func (PySem.W.fnOf "_law_draw" "_law_draw" (defArgs s__law_draw) (defBody s__law_draw) (defScope s__law_draw) .none kV_law_draw dc_law_draw pm_law_draw an_law_draw cd_law_draw ct_law_draw), sl_law_draw⟩)
    (c_law_draw : PySem.W.codeIn K cd_law_draw "_law_draw" = true)
    (k_law_draw : PySem.W.keepIn K (.ref f_law_draw) = true)
    (a_law_two_once : PySem.W.nsIn K mainGlobals "_law_two_once" = some (some (.ref f_law_two_once)))
    (l_law_two_once : K.lookup f_law_two_once = some ⟨oc_law_two_once, od_law_two_once, .func (PySem.W.fnOf "_law_two_once" "_law_two_once" (defArgs s__law_two_once) (defBody s__law_two_once) (defScope s__law_two_once) .none kV_law_two_once dc_law_two_once pm_law_two_once an_law_two_once cd_law_two_once ct_law_two_once), sl_law_two_once⟩)
    (c_law_two_once : PySem.W.codeIn K cd_law_two_once "_law_two_once" = true)
    (k_law_two_once : PySem.W.keepIn K (.ref f_law_two_once) = true)
    (a_law_two_sided : PySem.W.nsIn K mainGlobals "_law_two_sided" = some (some (.ref f_law_two_sided)))
    (l_law_two_sided : K.lookup f_law_two_sided = some ⟨oc_law_two_sided, od_law_two_sided, .func (PySem.W.fnOf "_law_two_sided" "_law_two_sided" (defArgs s__law_two_sided) (defBody s__law_two_sided) (defScope s__law_two_sided) .none kV_law_two_sided dc_law_two_sided pm_law_two_sided an_law_two_sided cd_law_two_sided ct_law_two_sided), sl_law_two_sided⟩)
    (c_law_two_sided : PySem.W.codeIn K cd_law_two_sided "_law_two_sided" = true)
    (k_law_two_sided : PySem.W.keepIn K (.ref f_law_two_sided) = true)
    (a_law_steps_right : PySem.W.nsIn K mainGlobals "_law_steps_right" = some (some (.ref f_law_steps_right)))
    (l_law_steps_right : K.lookup f_law_steps_right = some ⟨oc_law_steps_right, od_law_steps_right, .func (PySem.W.fnOf "_law_steps_right" "_law_steps_right" (defArgs s__law_steps_right) (defBody s__law_steps_right) (defScope s__law_steps_right) .none kV_law_steps_right dc_law_steps_right pm_law_steps_right an_law_steps_right cd_law_steps_right ct_law_steps_right), sl_law_steps_right⟩)
    (c_law_steps_right : PySem.W.codeIn K cd_law_steps_right "_law_steps_right" = true)
    (k_law_steps_right : PySem.W.keepIn K (.ref f_law_steps_right) = true)
    (a_law_pairings_taken : PySem.W.nsIn K mainGlobals "_law_pairings_taken" = some (some (.ref f_law_pairings_taken)))
    (l_law_pairings_taken : K.lookup f_law_pairings_taken = some ⟨oc_law_pairings_taken, od_law_pairings_taken, .func (PySem.W.fnOf "_law_pairings_taken" "_law_pairings_taken" (defArgs s__law_pairings_taken) (defBody s__law_pairings_taken) (defScope s__law_pairings_taken) .none kV_law_pairings_taken dc_law_pairings_taken pm_law_pairings_taken an_law_pairings_taken cd_law_pairings_taken ct_law_pairings_taken), sl_law_pairings_taken⟩)
    (c_law_pairings_taken : PySem.W.codeIn K cd_law_pairings_taken "_law_pairings_taken" = true)
    (k_law_pairings_taken : PySem.W.keepIn K (.ref f_law_pairings_taken) = true)
    (a_law_pairing_right : PySem.W.nsIn K mainGlobals "_law_pairing_right" = some (some (.ref f_law_pairing_right)))
    (l_law_pairing_right : K.lookup f_law_pairing_right = some ⟨oc_law_pairing_right, od_law_pairing_right, .func (PySem.W.fnOf "_law_pairing_right" "_law_pairing_right" (defArgs s__law_pairing_right) (defBody s__law_pairing_right) (defScope s__law_pairing_right) .none kV_law_pairing_right dc_law_pairing_right pm_law_pairing_right an_law_pairing_right cd_law_pairing_right ct_law_pairing_right), sl_law_pairing_right⟩)
    (c_law_pairing_right : PySem.W.codeIn K cd_law_pairing_right "_law_pairing_right" = true)
    (k_law_pairing_right : PySem.W.keepIn K (.ref f_law_pairing_right) = true)
    (a_law_halves_right : PySem.W.nsIn K mainGlobals "_law_halves_right" = some (some (.ref f_law_halves_right)))
    (l_law_halves_right : K.lookup f_law_halves_right = some ⟨oc_law_halves_right, od_law_halves_right, .func (PySem.W.fnOf "_law_halves_right" "_law_halves_right" (defArgs s__law_halves_right) (defBody s__law_halves_right) (defScope s__law_halves_right) .none kV_law_halves_right dc_law_halves_right pm_law_halves_right an_law_halves_right cd_law_halves_right ct_law_halves_right), sl_law_halves_right⟩)
    (c_law_halves_right : PySem.W.codeIn K cd_law_halves_right "_law_halves_right" = true)
    (k_law_halves_right : PySem.W.keepIn K (.ref f_law_halves_right) = true)
    (n_C1 : PySem.W.nsIn K mainGlobals "Going" = some (some (.ref C1)))
    (pg_C1 : PySem.W.plainGet K C1 Str.empty = true)
    (hd_C1 : PySem.W.hasDictIn K C1 = true)
    (po_C1 : PySem.W.plainOver K C1 = true)
    (sa_C1 : PySem.W.findIn K (.ref C1) "__setattr__" = some (some (.builtin "object.__setattr__")))
    (mk_C1 : PySem.W.makesIn K C1 = true)
    (kc_C1 : PySem.W.keepIn K (.ref C1) = true)
    (no_C1_web : PySem.W.findIn K (.ref C1) "web" = some none)
    (no_C1_by_place : PySem.W.findIn K (.ref C1) "by_place" = some none)
    (no_C1_side : PySem.W.findIn K (.ref C1) "side" = some none)
    (no_C1_came : PySem.W.findIn K (.ref C1) "came" = some none)
    (n_C2 : PySem.W.nsIn K mainGlobals "Pairs" = some (some (.ref C2)))
    (pg_C2 : PySem.W.plainGet K C2 Str.empty = true)
    (hd_C2 : PySem.W.hasDictIn K C2 = true)
    (po_C2 : PySem.W.plainOver K C2 = true)
    (sa_C2 : PySem.W.findIn K (.ref C2) "__setattr__" = some (some (.builtin "object.__setattr__")))
    (mk_C2 : PySem.W.makesIn K C2 = true)
    (kc_C2 : PySem.W.keepIn K (.ref C2) = true)
    (no_C2_web : PySem.W.findIn K (.ref C2) "web" = some none)
    (no_C2_near : PySem.W.findIn K (.ref C2) "near" = some none)
    (no_C2_taken : PySem.W.findIn K (.ref C2) "taken" = some none)
    (a_m_go_from : PySem.W.findIn K (.ref C1) "go_from" = some (some (.ref f_m_go_from)))
    (l_m_go_from : K.lookup f_m_go_from = some ⟨oc_m_go_from, od_m_go_from, .func (PySem.W.fnOf "go_from" "Going.go_from" (defArgs s_Going_go_from) (defBody s_Going_go_from) (defScope s_Going_go_from) .none kV_m_go_from dc_m_go_from pm_m_go_from an_m_go_from cd_m_go_from ct_m_go_from), sl_m_go_from⟩)
    (c_m_go_from : PySem.W.codeIn K cd_m_go_from "Going.go_from" = true)
    (k_m_go_from : PySem.W.keepIn K (.ref f_m_go_from) = true)
    (i_m_go_from : PySem.W.isFn K (.ref f_m_go_from) = true)
    (a_m_mate : PySem.W.findIn K (.ref C2) "mate" = some (some (.ref f_m_mate)))
    (l_m_mate : K.lookup f_m_mate = some ⟨oc_m_mate, od_m_mate, .func (PySem.W.fnOf "mate" "Pairs.mate" (defArgs s_Pairs_mate) (defBody s_Pairs_mate) (defScope s_Pairs_mate) .none kV_m_mate dc_m_mate pm_m_mate an_m_mate cd_m_mate ct_m_mate), sl_m_mate⟩)
    (c_m_mate : PySem.W.codeIn K cd_m_mate "Pairs.mate" = true)
    (k_m_mate : PySem.W.keepIn K (.ref f_m_mate) = true)
    (i_m_mate : PySem.W.isFn K (.ref f_m_mate) = true)
    (a_m_went_on : PySem.W.findIn K (.ref C2) "went_on" = some (some (.ref f_m_went_on)))
    (l_m_went_on : K.lookup f_m_went_on = some ⟨oc_m_went_on, od_m_went_on, .func (PySem.W.fnOf "went_on" "Pairs.went_on" (defArgs s_Pairs_went_on) (defBody s_Pairs_went_on) (defScope s_Pairs_went_on) .none kV_m_went_on dc_m_went_on pm_m_went_on an_m_went_on cd_m_went_on ct_m_went_on), sl_m_went_on⟩)
    (c_m_went_on : PySem.W.codeIn K cd_m_went_on "Pairs.went_on" = true)
    (k_m_went_on : PySem.W.keepIn K (.ref f_m_went_on) = true)
    (i_m_went_on : PySem.W.isFn K (.ref f_m_went_on) = true)
    (a_m_sought : PySem.W.findIn K (.ref C2) "sought" = some (some (.ref f_m_sought)))
    (l_m_sought : K.lookup f_m_sought = some ⟨oc_m_sought, od_m_sought, .func (PySem.W.fnOf "sought" "Pairs.sought" (defArgs s_Pairs_sought) (defBody s_Pairs_sought) (defScope s_Pairs_sought) .none kV_m_sought dc_m_sought pm_m_sought an_m_sought cd_m_sought ct_m_sought), sl_m_sought⟩)
    (c_m_sought : PySem.W.codeIn K cd_m_sought "Pairs.sought" = true)
    (k_m_sought : PySem.W.keepIn K (.ref f_m_sought) = true)
    (i_m_sought : PySem.W.isFn K (.ref f_m_sought) = true)
    (a_m_turned : PySem.W.findIn K (.ref C2) "turned" = some (some (.ref f_m_turned)))
    (l_m_turned : K.lookup f_m_turned = some ⟨oc_m_turned, od_m_turned, .func (PySem.W.fnOf "turned" "Pairs.turned" (defArgs s_Pairs_turned) (defBody s_Pairs_turned) (defScope s_Pairs_turned) .none kV_m_turned dc_m_turned pm_m_turned an_m_turned cd_m_turned ct_m_turned), sl_m_turned⟩)
    (c_m_turned : PySem.W.codeIn K cd_m_turned "Pairs.turned" = true)
    (k_m_turned : PySem.W.keepIn K (.ref f_m_turned) = true)
    (i_m_turned : PySem.W.isFn K (.ref f_m_turned) = true)
    (a_m_ties : PySem.W.findIn K (.ref C2) "ties" = some (some (.ref f_m_ties)))
    (l_m_ties : K.lookup f_m_ties = some ⟨oc_m_ties, od_m_ties, .func (PySem.W.fnOf "ties" "Pairs.ties" (defArgs s_Pairs_ties) (defBody s_Pairs_ties) (defScope s_Pairs_ties) .none kV_m_ties dc_m_ties pm_m_ties an_m_ties cd_m_ties ct_m_ties), sl_m_ties⟩)
    (c_m_ties : PySem.W.codeIn K cd_m_ties "Pairs.ties" = true)
    (k_m_ties : PySem.W.keepIn K (.ref f_m_ties) = true)
    (i_m_ties : PySem.W.isFn K (.ref f_m_ties) = true)
    (a_m_Going : PySem.W.findIn K (.ref C1) "__init__" = some (some (.ref f_m_Going)))
    (l_m_Going : K.lookup f_m_Going = some ⟨oc_m_Going, od_m_Going, .func (PySem.W.fnOf "__init__" "Going.__init__" (defArgs s_Going_init) (defBody s_Going_init) (defScope s_Going_init) .none kV_m_Going dc_m_Going pm_m_Going an_m_Going cd_m_Going ct_m_Going), sl_m_Going⟩)
    (c_m_Going : PySem.W.codeIn K cd_m_Going "Going.__init__" = true)
    (k_m_Going : PySem.W.keepIn K (.ref f_m_Going) = true)
    (i_m_Going : PySem.W.isFn K (.ref f_m_Going) = true)
    (a_m_Pairs : PySem.W.findIn K (.ref C2) "__init__" = some (some (.ref f_m_Pairs)))
    (l_m_Pairs : K.lookup f_m_Pairs = some ⟨oc_m_Pairs, od_m_Pairs, .func (PySem.W.fnOf "__init__" "Pairs.__init__" (defArgs s_Pairs_init) (defBody s_Pairs_init) (defScope s_Pairs_init) .none kV_m_Pairs dc_m_Pairs pm_m_Pairs an_m_Pairs cd_m_Pairs ct_m_Pairs), sl_m_Pairs⟩)
    (c_m_Pairs : PySem.W.codeIn K cd_m_Pairs "Pairs.__init__" = true)
    (k_m_Pairs : PySem.W.keepIn K (.ref f_m_Pairs) = true)
    (i_m_Pairs : PySem.W.isFn K (.ref f_m_Pairs) = true)
    (a_law : PySem.W.nsIn K mainGlobals "law" = some (some (.ref f_law)))
    (l_law : K.lookup f_law = some ⟨oc_law, od_law, .func (PySem.W.fnOf "law" "law" (defArgs s_law) (defBody s_law) (defScope s_law) .none kV_law dc_law pm_law an_law cd_law ct_law), sl_law⟩)
    (c_law : PySem.W.codeIn K cd_law "law" = true)
    (k_law : PySem.W.keepIn K (.ref f_law) = true)
    : ∃ fd : FuncData, (∀ (s : Shared) (v : Value), BindsTo s fd ⟨[v], []⟩ [("_law_script", v)]) ∧ ∀ base : Heap, K.In base → base.Ns mainGlobals mg → FnOk l.prog w K mg base CX0 11 fa fd ["_law_script"] (sp_law K) := by
  have e := hfa.symm.trans (PySem.W.mg_of X G a_law)
  cases e
  have T : Txt mg := ⟨PySem.W.mg_none_of X G t_len, PySem.W.mg_none_of X G t_isinstance, PySem.W.mg_none_of X G t_int, PySem.W.mg_none_of X G t_bool, PySem.W.mg_none_of X G t_list, PySem.W.mg_none_of X G t_tuple, PySem.W.mg_none_of X G t_range, PySem.W.mg_none_of X G t_enumerate, PySem.W.mg_none_of X G t_zip, PySem.W.mg_none_of X G t_max, PySem.W.mg_none_of X G t_min, PySem.W.mg_none_of X G t_sum, PySem.W.mg_none_of X G t_sorted, PySem.W.mg_none_of X G t_set, PySem.W.mg_none_of X G t_any, PySem.W.mg_none_of X G t_all, PySem.W.mg_none_of X G t_abs, ⟨_, PySem.W.mg_of X G t_SIDES⟩, ⟨_, PySem.W.mg_of X G t_RING⟩, ⟨_, PySem.W.mg_of X G t_HUE⟩, ⟨_, PySem.W.mg_of X G t_DROP⟩, ⟨_, PySem.W.mg_of X G t_MOVE⟩⟩
  have G_C1 : GoK K C1 := ⟨⟨pg_C1, hd_C1, po_C1, sa_C1⟩, no_C1_web, no_C1_by_place, no_C1_side, no_C1_came⟩
  have G_C2 : PrK K C2 := ⟨⟨pg_C2, hd_C2, po_C2, sa_C2⟩, no_C2_web, no_C2_near, no_C2_taken⟩
  have D_is_number : DefAt K mg "is_number" s_is_number ["thing"] := ⟨f_is_number, _, PySem.W.mg_of X G a_is_number, fun_mk l_is_number c_is_number k_is_number, (fun_mk l_is_number c_is_number k_is_number).binds fun _ _ _ _ _ _ us hl => match us, hl with | [_], _ => rfl⟩
  have D_look_place : DefAt K mg "look_place" s_look_place ["web", "place"] := ⟨f_look_place, _, PySem.W.mg_of X G a_look_place, fun_mk l_look_place c_look_place k_look_place, (fun_mk l_look_place c_look_place k_look_place).binds fun _ _ _ _ _ _ us hl => match us, hl with | [_, _], _ => rfl⟩
  have D_look_tie : DefAt K mg "look_tie" s_look_tie ["web", "tie"] := ⟨f_look_tie, _, PySem.W.mg_of X G a_look_tie, fun_mk l_look_tie c_look_tie k_look_tie, (fun_mk l_look_tie c_look_tie k_look_tie).binds fun _ _ _ _ _ _ us hl => match us, hl with | [_, _], _ => rfl⟩
  have D_ties_at : DefAt K mg "ties_at" s_ties_at ["web", "place"] := ⟨f_ties_at, _, PySem.W.mg_of X G a_ties_at, fun_mk l_ties_at c_ties_at k_ties_at, (fun_mk l_ties_at c_ties_at k_ties_at).binds fun _ _ _ _ _ _ us hl => match us, hl with | [_, _], _ => rfl⟩
  have D_count_at : DefAt K mg "count_at" s_count_at ["web", "place"] := ⟨f_count_at, _, PySem.W.mg_of X G a_count_at, fun_mk l_count_at c_count_at k_count_at, (fun_mk l_count_at c_count_at k_count_at).binds fun _ _ _ _ _ _ us hl => match us, hl with | [_, _], _ => rfl⟩
  have D_far_end : DefAt K mg "far_end" s_far_end ["web", "tie", "place"] := ⟨f_far_end, _, PySem.W.mg_of X G a_far_end, fun_mk l_far_end c_far_end k_far_end, (fun_mk l_far_end c_far_end k_far_end).binds fun _ _ _ _ _ _ us hl => match us, hl with | [_, _, _], _ => rfl⟩
  have D_only : DefAt K mg "only" s_only ["web", "ties"] := ⟨f_only, _, PySem.W.mg_of X G a_only, fun_mk l_only c_only k_only, (fun_mk l_only c_only k_only).binds fun _ _ _ _ _ _ us hl => match us, hl with | [_, _], _ => rfl⟩
  have D_ties_by_place : DefAt K mg "ties_by_place" s_ties_by_place ["web"] := ⟨f_ties_by_place, _, PySem.W.mg_of X G a_ties_by_place, fun_mk l_ties_by_place c_ties_by_place k_ties_by_place, (fun_mk l_ties_by_place c_ties_by_place k_ties_by_place).binds fun _ _ _ _ _ _ us hl => match us, hl with | [_], _ => rfl⟩
  have D_most_at : DefAt K mg "most_at" s_most_at ["web"] := ⟨f_most_at, _, PySem.W.mg_of X G a_most_at, fun_mk l_most_at c_most_at k_most_at, (fun_mk l_most_at c_most_at k_most_at).binds fun _ _ _ _ _ _ us hl => match us, hl with | [_], _ => rfl⟩
  have D_Going : MkDef K mg C1 "Going" "Going.__init__" s_Going_init ["self", "web"] := ⟨f_m_Going, _, PySem.W.mg_of X G n_C1, ⟨mk_C1, a_m_Going, i_m_Going, kc_C1⟩, fun_mk l_m_Going c_m_Going k_m_Going, (fun_mk l_m_Going c_m_Going k_m_Going).binds fun _ _ _ _ _ _ us hl => match us, hl with | [_, _], _ => rfl⟩
  have D_go_from : MetDef K C1 "go_from" "Going.go_from" s_Going_go_from ["self", "place"] := ⟨f_m_go_from, _, ⟨a_m_go_from, i_m_go_from, k_m_go_from⟩, fun_mk l_m_go_from c_m_go_from k_m_go_from, (fun_mk l_m_go_from c_m_go_from k_m_go_from).binds fun _ _ _ _ _ _ us hl => match us, hl with | [_, _], _ => rfl⟩
  have D_two_sides : DefAt K mg "two_sides" s_two_sides ["web"] := ⟨f_two_sides, _, PySem.W.mg_of X G a_two_sides, fun_mk l_two_sides c_two_sides k_two_sides, (fun_mk l_two_sides c_two_sides k_two_sides).binds fun _ _ _ _ _ _ us hl => match us, hl with | [_], _ => rfl⟩
  have D_sides_of : DefAt K mg "sides_of" s_sides_of ["web"] := ⟨f_sides_of, _, PySem.W.mg_of X G a_sides_of, fun_mk l_sides_of c_sides_of k_sides_of, (fun_mk l_sides_of c_sides_of k_sides_of).binds fun _ _ _ _ _ _ us hl => match us, hl with | [_], _ => rfl⟩
  have D_pairs_by_place : DefAt K mg "pairs_by_place" s_pairs_by_place ["web"] := ⟨f_pairs_by_place, _, PySem.W.mg_of X G a_pairs_by_place, fun_mk l_pairs_by_place c_pairs_by_place k_pairs_by_place, (fun_mk l_pairs_by_place c_pairs_by_place k_pairs_by_place).binds fun _ _ _ _ _ _ us hl => match us, hl with | [_], _ => rfl⟩
  have D_Pairs : MkDef K mg C2 "Pairs" "Pairs.__init__" s_Pairs_init ["self", "web"] := ⟨f_m_Pairs, _, PySem.W.mg_of X G n_C2, ⟨mk_C2, a_m_Pairs, i_m_Pairs, kc_C2⟩, fun_mk l_m_Pairs c_m_Pairs k_m_Pairs, (fun_mk l_m_Pairs c_m_Pairs k_m_Pairs).binds fun _ _ _ _ _ _ us hl => match us, hl with | [_, _], _ => rfl⟩
  have D_mate : MetDef K C2 "mate" "Pairs.mate" s_Pairs_mate ["self", "place"] := ⟨f_m_mate, _, ⟨a_m_mate, i_m_mate, k_m_mate⟩, fun_mk l_m_mate c_m_mate k_m_mate, (fun_mk l_m_mate c_m_mate k_m_mate).binds fun _ _ _ _ _ _ us hl => match us, hl with | [_, _], _ => rfl⟩
  have D_went_on : MetDef K C2 "went_on" "Pairs.went_on" s_Pairs_went_on ["self", "here", "came", "let"] := ⟨f_m_went_on, _, ⟨a_m_went_on, i_m_went_on, k_m_went_on⟩, fun_mk l_m_went_on c_m_went_on k_m_went_on, (fun_mk l_m_went_on c_m_went_on k_m_went_on).binds fun _ _ _ _ _ _ us hl => match us, hl with | [_, _, _, _], _ => rfl⟩
  have D_sought : MetDef K C2 "sought" "Pairs.sought" s_Pairs_sought ["self", "place", "let"] := ⟨f_m_sought, _, ⟨a_m_sought, i_m_sought, k_m_sought⟩, fun_mk l_m_sought c_m_sought k_m_sought, (fun_mk l_m_sought c_m_sought k_m_sought).binds fun _ _ _ _ _ _ us hl => match us, hl with | [_, _, _], _ => rfl⟩
  have D_turned : MetDef K C2 "turned" "Pairs.turned" s_Pairs_turned ["self", "came", "end"] := ⟨f_m_turned, _, ⟨a_m_turned, i_m_turned, k_m_turned⟩, fun_mk l_m_turned c_m_turned k_m_turned, (fun_mk l_m_turned c_m_turned k_m_turned).binds fun _ _ _ _ _ _ us hl => match us, hl with | [_, _, _], _ => rfl⟩
  have D_ties : MetDef K C2 "ties" "Pairs.ties" s_Pairs_ties ["self"] := ⟨f_m_ties, _, ⟨a_m_ties, i_m_ties, k_m_ties⟩, fun_mk l_m_ties c_m_ties k_m_ties, (fun_mk l_m_ties c_m_ties k_m_ties).binds fun _ _ _ _ _ _ us hl => match us, hl with | [_], _ => rfl⟩
  have D_greatest_pairs : DefAt K mg "greatest_pairs" s_greatest_pairs ["web", "sides"] := ⟨f_greatest_pairs, _, PySem.W.mg_of X G a_greatest_pairs, fun_mk l_greatest_pairs c_greatest_pairs k_greatest_pairs, (fun_mk l_greatest_pairs c_greatest_pairs k_greatest_pairs).binds fun _ _ _ _ _ _ us hl => match us, hl with | [_, _], _ => rfl⟩
  have D_cover_of : DefAt K mg "cover_of" s_cover_of ["pairs", "sides"] := ⟨f_cover_of, _, PySem.W.mg_of X G a_cover_of, fun_mk l_cover_of c_cover_of k_cover_of, (fun_mk l_cover_of c_cover_of k_cover_of).binds fun _ _ _ _ _ _ us hl => match us, hl with | [_, _], _ => rfl⟩
  have D_pairing : DefAt K mg "pairing" s_pairing ["web"] := ⟨f_pairing, _, PySem.W.mg_of X G a_pairing, fun_mk l_pairing c_pairing k_pairing, (fun_mk l_pairing c_pairing k_pairing).binds fun _ _ _ _ _ _ us hl => match us, hl with | [_], _ => rfl⟩
  have D_full_pairing : DefAt K mg "full_pairing" s_full_pairing ["web"] := ⟨f_full_pairing, _, PySem.W.mg_of X G a_full_pairing, fun_mk l_full_pairing c_full_pairing k_full_pairing, (fun_mk l_full_pairing c_full_pairing k_full_pairing).binds fun _ _ _ _ _ _ us hl => match us, hl with | [_], _ => rfl⟩
  have D_are_rising : DefAt K mg "are_rising" s_are_rising ["thing", "below"] := ⟨f_are_rising, _, PySem.W.mg_of X G a_are_rising, fun_mk l_are_rising c_are_rising k_are_rising, (fun_mk l_are_rising c_are_rising k_are_rising).binds fun _ _ _ _ _ _ us hl => match us, hl with | [_, _], _ => rfl⟩
  have D_shows_pairing : DefAt K mg "shows_pairing" s_shows_pairing ["web", "thing"] := ⟨f_shows_pairing, _, PySem.W.mg_of X G a_shows_pairing, fun_mk l_shows_pairing c_shows_pairing k_shows_pairing, (fun_mk l_shows_pairing c_shows_pairing k_shows_pairing).binds fun _ _ _ _ _ _ us hl => match us, hl with | [_, _], _ => rfl⟩
  have D_evened_ties : DefAt K mg "evened_ties" s_evened_ties ["web", "sides"] := ⟨f_evened_ties, _, PySem.W.mg_of X G a_evened_ties, fun_mk l_evened_ties c_evened_ties k_evened_ties, (fun_mk l_evened_ties c_evened_ties k_evened_ties).binds fun _ _ _ _ _ _ us hl => match us, hl with | [_, _], _ => rfl⟩
  have D_turns_of : DefAt K mg "turns_of" s_turns_of ["ties", "many"] := ⟨f_turns_of, _, PySem.W.mg_of X G a_turns_of, fun_mk l_turns_of c_turns_of k_turns_of, (fun_mk l_turns_of c_turns_of k_turns_of).binds fun _ _ _ _ _ _ us hl => match us, hl with | [_, _], _ => rfl⟩
  have D_halves : DefAt K mg "halves" s_halves ["web"] := ⟨f_halves, _, PySem.W.mg_of X G a_halves, fun_mk l_halves c_halves k_halves, (fun_mk l_halves c_halves k_halves).binds fun _ _ _ _ _ _ us hl => match us, hl with | [_], _ => rfl⟩
  have D_is_hue : DefAt K mg "is_hue" s_is_hue ["thing"] := ⟨f_is_hue, _, PySem.W.mg_of X G a_is_hue, fun_mk l_is_hue c_is_hue k_is_hue, (fun_mk l_is_hue c_is_hue k_is_hue).binds fun _ _ _ _ _ _ us hl => match us, hl with | [_], _ => rfl⟩
  have D_clash_of : DefAt K mg "clash_of" s_clash_of ["web", "row"] := ⟨f_clash_of, _, PySem.W.mg_of X G a_clash_of, fun_mk l_clash_of c_clash_of k_clash_of, (fun_mk l_clash_of c_clash_of k_clash_of).binds fun _ _ _ _ _ _ us hl => match us, hl with | [_, _], _ => rfl⟩
  have D_is_hueing : DefAt K mg "is_hueing" s_is_hueing ["web", "thing"] := ⟨f_is_hueing, _, PySem.W.mg_of X G a_is_hueing, fun_mk l_is_hueing c_is_hueing k_is_hueing, (fun_mk l_is_hueing c_is_hueing k_is_hueing).binds fun _ _ _ _ _ _ us hl => match us, hl with | [_, _], _ => rfl⟩
  have D_is_whole : DefAt K mg "is_whole" s_is_whole ["web", "thing"] := ⟨f_is_whole, _, PySem.W.mg_of X G a_is_whole, fun_mk l_is_whole c_is_whole k_is_whole, (fun_mk l_is_whole c_is_whole k_is_whole).binds fun _ _ _ _ _ _ us hl => match us, hl with | [_, _], _ => rfl⟩
  have D_hues_at : DefAt K mg "hues_at" s_hues_at ["web", "hueing", "place"] := ⟨f_hues_at, _, PySem.W.mg_of X G a_hues_at, fun_mk l_hues_at c_hues_at k_hues_at, (fun_mk l_hues_at c_hues_at k_hues_at).binds fun _ _ _ _ _ _ us hl => match us, hl with | [_, _, _], _ => rfl⟩
  have D_free_at : DefAt K mg "free_at" s_free_at ["web", "hueing", "place", "hues"] := ⟨f_free_at, _, PySem.W.mg_of X G a_free_at, fun_mk l_free_at c_free_at k_free_at, (fun_mk l_free_at c_free_at k_free_at).binds fun _ _ _ _ _ _ us hl => match us, hl with | [_, _, _, _], _ => rfl⟩
  have D_tie_of : DefAt K mg "tie_of" s_tie_of ["web", "hueing", "place", "hue"] := ⟨f_tie_of, _, PySem.W.mg_of X G a_tie_of, fun_mk l_tie_of c_tie_of k_tie_of, (fun_mk l_tie_of c_tie_of k_tie_of).binds fun _ _ _ _ _ _ us hl => match us, hl with | [_, _, _, _], _ => rfl⟩
  have D_look_hues : DefAt K mg "look_hues" s_look_hues ["one", "other"] := ⟨f_look_hues, _, PySem.W.mg_of X G a_look_hues, fun_mk l_look_hues c_look_hues k_look_hues, (fun_mk l_look_hues c_look_hues k_look_hues).binds fun _ _ _ _ _ _ us hl => match us, hl with | [_, _], _ => rfl⟩
  have D_row_from : DefAt K mg "row_from" s_row_from ["web", "hueing", "place", "one", "other"] := ⟨f_row_from, _, PySem.W.mg_of X G a_row_from, fun_mk l_row_from c_row_from k_row_from, (fun_mk l_row_from c_row_from k_row_from).binds fun _ _ _ _ _ _ us hl => match us, hl with | [_, _, _, _, _], _ => rfl⟩
  have D_other_of : DefAt K mg "other_of" s_other_of ["hue", "one", "other"] := ⟨f_other_of, _, PySem.W.mg_of X G a_other_of, fun_mk l_other_of c_other_of k_other_of, (fun_mk l_other_of c_other_of k_other_of).binds fun _ _ _ _ _ _ us hl => match us, hl with | [_, _, _], _ => rfl⟩
  have D_exchanged : DefAt K mg "exchanged" s_exchanged ["web", "hueing", "ties", "one", "other"] := ⟨f_exchanged, _, PySem.W.mg_of X G a_exchanged, fun_mk l_exchanged c_exchanged k_exchanged, (fun_mk l_exchanged c_exchanged k_exchanged).binds fun _ _ _ _ _ _ us hl => match us, hl with | [_, _, _, _, _], _ => rfl⟩
  have D_look_so : DefAt K mg "look_so" s_look_so ["is_so"] := ⟨f_look_so, _, PySem.W.mg_of X G a_look_so, fun_mk l_look_so c_look_so k_look_so, (fun_mk l_look_so c_look_so k_look_so).binds fun _ _ _ _ _ _ us hl => match us, hl with | [_], _ => rfl⟩
  have D_is_tie : DefAt K mg "is_tie" s_is_tie ["web", "tie"] := ⟨f_is_tie, _, PySem.W.mg_of X G a_is_tie, fun_mk l_is_tie c_is_tie k_is_tie, (fun_mk l_is_tie c_is_tie k_is_tie).binds fun _ _ _ _ _ _ us hl => match us, hl with | [_, _], _ => rfl⟩
  have D_with_hue : DefAt K mg "with_hue" s_with_hue ["web", "hueing", "step"] := ⟨f_with_hue, _, PySem.W.mg_of X G a_with_hue, fun_mk l_with_hue c_with_hue k_with_hue, (fun_mk l_with_hue c_with_hue k_with_hue).binds fun _ _ _ _ _ _ us hl => match us, hl with | [_, _, _], _ => rfl⟩
  have D_row_turned : DefAt K mg "row_turned" s_row_turned ["web", "hueing", "step"] := ⟨f_row_turned, _, PySem.W.mg_of X G a_row_turned, fun_mk l_row_turned c_row_turned k_row_turned, (fun_mk l_row_turned c_row_turned k_row_turned).binds fun _ _ _ _ _ _ us hl => match us, hl with | [_, _, _], _ => rfl⟩
  have D_made_by : DefAt K mg "made_by" s_made_by ["web", "hueing", "step"] := ⟨f_made_by, _, PySem.W.mg_of X G a_made_by, fun_mk l_made_by c_made_by k_made_by, (fun_mk l_made_by c_made_by k_made_by).binds fun _ _ _ _ _ _ us hl => match us, hl with | [_, _, _], _ => rfl⟩
  have D_done_step : DefAt K mg "done_step" s_done_step ["web", "hueing", "step"] := ⟨f_done_step, _, PySem.W.mg_of X G a_done_step, fun_mk l_done_step c_done_step k_done_step, (fun_mk l_done_step c_done_step k_done_step).binds fun _ _ _ _ _ _ us hl => match us, hl with | [_, _, _], _ => rfl⟩
  have D_played : DefAt K mg "played" s_played ["web", "hueing", "steps"] := ⟨f_played, _, PySem.W.mg_of X G a_played, fun_mk l_played c_played k_played, (fun_mk l_played c_played k_played).binds fun _ _ _ _ _ _ us hl => match us, hl with | [_, _, _], _ => rfl⟩
  have D_steps_for : DefAt K mg "steps_for" s_steps_for ["web", "hueing", "tie", "hues"] := ⟨f_steps_for, _, PySem.W.mg_of X G a_steps_for, fun_mk l_steps_for c_steps_for k_steps_for, (fun_mk l_steps_for c_steps_for k_steps_for).binds fun _ _ _ _ _ _ us hl => match us, hl with | [_, _, _, _], _ => rfl⟩
  have D_by_rows : DefAt K mg "by_rows" s_by_rows ["web"] := ⟨f_by_rows, _, PySem.W.mg_of X G a_by_rows, fun_mk l_by_rows c_by_rows k_by_rows, (fun_mk l_by_rows c_by_rows k_by_rows).binds fun _ _ _ _ _ _ us hl => match us, hl with | [_], _ => rfl⟩
  have D_by_pairings : DefAt K mg "by_pairings" s_by_pairings ["web"] := ⟨f_by_pairings, _, PySem.W.mg_of X G a_by_pairings, fun_mk l_by_pairings c_by_pairings k_by_pairings, (fun_mk l_by_pairings c_by_pairings k_by_pairings).binds fun _ _ _ _ _ _ us hl => match us, hl with | [_], _ => rfl⟩
  have D_parts_of : DefAt K mg "parts_of" s_parts_of ["web", "ties"] := ⟨f_parts_of, _, PySem.W.mg_of X G a_parts_of, fun_mk l_parts_of c_parts_of k_parts_of, (fun_mk l_parts_of c_parts_of k_parts_of).binds fun _ _ _ _ _ _ us hl => match us, hl with | [_, _], _ => rfl⟩
  have D_by_halves : DefAt K mg "by_halves" s_by_halves ["web"] := ⟨f_by_halves, _, PySem.W.mg_of X G a_by_halves, fun_mk l_by_halves c_by_halves k_by_halves, (fun_mk l_by_halves c_by_halves k_by_halves).binds fun _ _ _ _ _ _ us hl => match us, hl with | [_], _ => rfl⟩
  have D_law_tape : DefAt K mg "_law_tape" s__law_tape ["_law_script", "_law_k"] := ⟨f_law_tape, _, PySem.W.mg_of X G a_law_tape, fun_mk l_law_tape c_law_tape k_law_tape, (fun_mk l_law_tape c_law_tape k_law_tape).binds fun _ _ _ _ _ _ us hl => match us, hl with | [_, _], _ => rfl⟩
  have D_law_draw : DefAt K mg "_law_draw" s__law_draw ["_law_tape_here", "_law_many"] := ⟨f_law_draw, _, PySem.W.mg_of X G a_law_draw, fun_mk l_law_draw c_law_draw k_law_draw, (fun_mk l_law_draw c_law_draw k_law_draw).binds fun _ _ _ _ _ _ us hl => match us, hl with | [_, _], _ => rfl⟩
  have D_law_two_once : DefAt K mg "_law_two_once" s__law_two_once ["_law_tape_here", "_law_great"] := ⟨f_law_two_once, _, PySem.W.mg_of X G a_law_two_once, fun_mk l_law_two_once c_law_two_once k_law_two_once, (fun_mk l_law_two_once c_law_two_once k_law_two_once).binds fun _ _ _ _ _ _ us hl => match us, hl with | [_, _], _ => rfl⟩
  have D_law_two_sided : DefAt K mg "_law_two_sided" s__law_two_sided ["_law_tape_here", "_law_great"] := ⟨f_law_two_sided, _, PySem.W.mg_of X G a_law_two_sided, fun_mk l_law_two_sided c_law_two_sided k_law_two_sided, (fun_mk l_law_two_sided c_law_two_sided k_law_two_sided).binds fun _ _ _ _ _ _ us hl => match us, hl with | [_, _], _ => rfl⟩
  have D_law_steps_right : DefAt K mg "_law_steps_right" s__law_steps_right ["_law_web"] := ⟨f_law_steps_right, _, PySem.W.mg_of X G a_law_steps_right, fun_mk l_law_steps_right c_law_steps_right k_law_steps_right, (fun_mk l_law_steps_right c_law_steps_right k_law_steps_right).binds fun _ _ _ _ _ _ us hl => match us, hl with | [_], _ => rfl⟩
  have D_law_pairings_taken : DefAt K mg "_law_pairings_taken" s__law_pairings_taken ["_law_web"] := ⟨f_law_pairings_taken, _, PySem.W.mg_of X G a_law_pairings_taken, fun_mk l_law_pairings_taken c_law_pairings_taken k_law_pairings_taken, (fun_mk l_law_pairings_taken c_law_pairings_taken k_law_pairings_taken).binds fun _ _ _ _ _ _ us hl => match us, hl with | [_], _ => rfl⟩
  have D_law_pairing_right : DefAt K mg "_law_pairing_right" s__law_pairing_right ["_law_web"] := ⟨f_law_pairing_right, _, PySem.W.mg_of X G a_law_pairing_right, fun_mk l_law_pairing_right c_law_pairing_right k_law_pairing_right, (fun_mk l_law_pairing_right c_law_pairing_right k_law_pairing_right).binds fun _ _ _ _ _ _ us hl => match us, hl with | [_], _ => rfl⟩
  have D_law_halves_right : DefAt K mg "_law_halves_right" s__law_halves_right ["_law_web"] := ⟨f_law_halves_right, _, PySem.W.mg_of X G a_law_halves_right, fun_mk l_law_halves_right c_law_halves_right k_law_halves_right, (fun_mk l_law_halves_right c_law_halves_right k_law_halves_right).binds fun _ _ _ _ _ _ us hl => match us, hl with | [_], _ => rfl⟩
  refine ⟨PySem.W.fnOf "law" "law" (defArgs s_law) (defBody s_law) (defScope s_law) .none kV_law dc_law pm_law an_law cd_law ct_law, fun s v => .of_eq rfl, fun base _ _ => ?_⟩
  have A_is_number := ok_is_number (P := l.prog) (w := w) (mg := mg) (base := base) (D := D_is_number) (T := T)
  have A_look_place := ok_look_place (P := l.prog) (w := w) (mg := mg) (base := base) (D := D_look_place) (T := T) (A_is_number := A_is_number)
  have A_look_tie := ok_look_tie (P := l.prog) (w := w) (mg := mg) (base := base) (D := D_look_tie) (T := T) (A_is_number := A_is_number)
  have A_ties_at := ok_ties_at (P := l.prog) (w := w) (mg := mg) (base := base) (D := D_ties_at) (T := T) (A_look_place := A_look_place)
  have A_count_at := ok_count_at (P := l.prog) (w := w) (mg := mg) (base := base) (D := D_count_at) (T := T) (A_ties_at := A_ties_at)
  have A_far_end := ok_far_end (P := l.prog) (w := w) (mg := mg) (base := base) (D := D_far_end) (T := T) (A_is_number := A_is_number) (A_look_tie := A_look_tie)
  have A_only := ok_only (P := l.prog) (w := w) (mg := mg) (base := base) (D := D_only) (T := T) (A_look_tie := A_look_tie)
  have A_ties_by_place := ok_ties_by_place (P := l.prog) (w := w) (mg := mg) (base := base) (D := D_ties_by_place) (T := T)
  have A_most_at := ok_most_at (P := l.prog) (w := w) (mg := mg) (base := base) (D := D_most_at) (T := T) (A_ties_by_place := A_ties_by_place)
  have A_Going := ok_Going_init (P := l.prog) (w := w) (mg := mg) (base := base) (D := D_Going) (G := G_C1) (A_ties_by_place := A_ties_by_place)
  have A_go_from := ok_go_from (P := l.prog) (w := w) (mg := mg) (base := base) (D := D_go_from) (T := T) (G := G_C1)
  have A_two_sides := ok_two_sides (P := l.prog) (w := w) (mg := mg) (base := base) (D := D_two_sides) (T := T) (G := G_C1) (A_Going := A_Going) (A_go_from := A_go_from)
  have A_sides_of := ok_sides_of (P := l.prog) (w := w) (mg := mg) (base := base) (D := D_sides_of) (T := T) (A_two_sides := A_two_sides)
  have A_pairs_by_place := ok_pairs_by_place (P := l.prog) (w := w) (mg := mg) (base := base) (D := D_pairs_by_place) (T := T)
  have A_Pairs := ok_Pairs_init (P := l.prog) (w := w) (mg := mg) (base := base) (D := D_Pairs) (G := G_C2) (A_pairs_by_place := A_pairs_by_place)
  have A_mate := ok_mate (P := l.prog) (w := w) (mg := mg) (base := base) (D := D_mate) (G := G_C2)
  have A_went_on := ok_went_on (P := l.prog) (w := w) (mg := mg) (base := base) (D := D_went_on) (T := T) (G := G_C2) (A_mate := A_mate)
  have A_sought := ok_sought (P := l.prog) (w := w) (mg := mg) (base := base) (D := D_sought) (T := T) (G := G_C2) (A_went_on := A_went_on)
  have A_turned := ok_turned (P := l.prog) (w := w) (mg := mg) (base := base) (D := D_turned) (T := T) (G := G_C2)
  have A_ties := ok_ties (P := l.prog) (w := w) (mg := mg) (base := base) (D := D_ties) (T := T) (G := G_C2)
  have A_greatest_pairs := ok_greatest_pairs (P := l.prog) (w := w) (mg := mg) (base := base) (D := D_greatest_pairs) (T := T) (G := G_C2) (A_Pairs := A_Pairs) (A_sought := A_sought) (A_turned := A_turned)
  have A_cover_of := ok_cover_of (P := l.prog) (w := w) (mg := mg) (base := base) (D := D_cover_of) (T := T) (G := G_C2) (A_sought := A_sought)
  have A_pairing := ok_pairing (P := l.prog) (w := w) (mg := mg) (base := base) (D := D_pairing) (T := T) (G := G_C2) (A_sides_of := A_sides_of) (A_greatest_pairs := A_greatest_pairs) (A_ties := A_ties) (A_cover_of := A_cover_of)
  have A_full_pairing := ok_full_pairing (P := l.prog) (w := w) (mg := mg) (base := base) (D := D_full_pairing) (T := T) (G := G_C2) (A_sides_of := A_sides_of) (A_most_at := A_most_at) (A_count_at := A_count_at) (A_Pairs := A_Pairs) (A_sought := A_sought) (A_turned := A_turned) (A_ties := A_ties)
  have A_are_rising := ok_are_rising (P := l.prog) (w := w) (mg := mg) (base := base) (D := D_are_rising) (T := T)
  have A_shows_pairing := ok_shows_pairing (P := l.prog) (w := w) (mg := mg) (base := base) (D := D_shows_pairing) (T := T) (A_are_rising := A_are_rising)
  have A_evened_ties := ok_evened_ties (P := l.prog) (w := w) (mg := mg) (base := base) (D := D_evened_ties) (T := T) (A_count_at := A_count_at)
  have A_turns_of := ok_turns_of (P := l.prog) (w := w) (mg := mg) (base := base) (D := D_turns_of) (T := T)
  have A_halves := ok_halves (P := l.prog) (w := w) (mg := mg) (base := base) (D := D_halves) (T := T) (A_sides_of := A_sides_of) (A_evened_ties := A_evened_ties) (A_turns_of := A_turns_of)
  have A_is_hue := ok_is_hue (P := l.prog) (w := w) (mg := mg) (base := base) (D := D_is_hue) (T := T) (A_is_number := A_is_number)
  have A_clash_of := ok_clash_of (P := l.prog) (w := w) (mg := mg) (base := base) (D := D_clash_of) (T := T)
  have A_is_hueing := ok_is_hueing (P := l.prog) (w := w) (mg := mg) (base := base) (D := D_is_hueing) (T := T) (A_is_hue := A_is_hue) (A_clash_of := A_clash_of)
  have A_is_whole := ok_is_whole (P := l.prog) (w := w) (mg := mg) (base := base) (D := D_is_whole) (T := T) (A_is_hueing := A_is_hueing)
  have A_hues_at := ok_hues_at (P := l.prog) (w := w) (mg := mg) (base := base) (D := D_hues_at) (T := T) (A_ties_at := A_ties_at)
  have A_free_at := ok_free_at (P := l.prog) (w := w) (mg := mg) (base := base) (D := D_free_at) (T := T) (A_hues_at := A_hues_at)
  have A_tie_of := ok_tie_of (P := l.prog) (w := w) (mg := mg) (base := base) (D := D_tie_of) (T := T) (A_ties_at := A_ties_at)
  have A_look_hues := ok_look_hues (P := l.prog) (w := w) (mg := mg) (base := base) (D := D_look_hues)
  have A_row_from := ok_row_from (P := l.prog) (w := w) (mg := mg) (base := base) (D := D_row_from) (T := T) (A_ties_at := A_ties_at) (A_look_hues := A_look_hues) (A_tie_of := A_tie_of) (A_far_end := A_far_end)
  have A_other_of := ok_other_of (P := l.prog) (w := w) (mg := mg) (base := base) (D := D_other_of)
  have A_exchanged := ok_exchanged (P := l.prog) (w := w) (mg := mg) (base := base) (D := D_exchanged) (T := T) (A_look_hues := A_look_hues) (A_other_of := A_other_of) (A_is_hueing := A_is_hueing)
  have A_look_so := ok_look_so (P := l.prog) (w := w) (mg := mg) (base := base) (D := D_look_so)
  have A_is_tie := ok_is_tie (P := l.prog) (w := w) (mg := mg) (base := base) (D := D_is_tie) (T := T)
  have A_with_hue := ok_with_hue (P := l.prog) (w := w) (mg := mg) (base := base) (D := D_with_hue) (T := T) (A_look_so := A_look_so) (A_is_tie := A_is_tie)
  have A_row_turned := ok_row_turned (P := l.prog) (w := w) (mg := mg) (base := base) (D := D_row_turned) (T := T) (A_row_from := A_row_from) (A_exchanged := A_exchanged)
  have A_made_by := ok_made_by (P := l.prog) (w := w) (mg := mg) (base := base) (D := D_made_by) (T := T) (A_with_hue := A_with_hue) (A_row_turned := A_row_turned)
  have A_done_step := ok_done_step (P := l.prog) (w := w) (mg := mg) (base := base) (D := D_done_step) (T := T) (A_made_by := A_made_by) (A_look_so := A_look_so) (A_is_hueing := A_is_hueing)
  have A_played := ok_played (P := l.prog) (w := w) (mg := mg) (base := base) (D := D_played) (T := T) (A_done_step := A_done_step)
  have A_steps_for := ok_steps_for (P := l.prog) (w := w) (mg := mg) (base := base) (D := D_steps_for) (T := T) (A_free_at := A_free_at)
  have A_by_rows := ok_by_rows (P := l.prog) (w := w) (mg := mg) (base := base) (D := D_by_rows) (T := T) (A_sides_of := A_sides_of) (A_most_at := A_most_at) (A_steps_for := A_steps_for) (A_done_step := A_done_step)
  have A_by_pairings := ok_by_pairings (P := l.prog) (w := w) (mg := mg) (base := base) (D := D_by_pairings) (T := T) (A_sides_of := A_sides_of) (A_only := A_only) (A_full_pairing := A_full_pairing)
  have A_parts_of := ok_parts_of (P := l.prog) (w := w) (mg := mg) (base := base) (D := D_parts_of) (T := T) (A_only := A_only) (A_most_at := A_most_at) (A_full_pairing := A_full_pairing) (A_halves := A_halves)
  have A_by_halves := ok_by_halves (P := l.prog) (w := w) (mg := mg) (base := base) (D := D_by_halves) (T := T) (A_sides_of := A_sides_of) (A_only := A_only) (A_most_at := A_most_at) (A_parts_of := A_parts_of)
  have A_law_tape := ok_law_tape (P := l.prog) (w := w) (mg := mg) (base := base) (D := D_law_tape) (T := T)
  have A_law_draw := ok_law_draw (P := l.prog) (w := w) (mg := mg) (base := base) (D := D_law_draw) (T := T)
  have A_law_two_once := ok_two_once (P := l.prog) (w := w) (mg := mg) (base := base) (D := D_law_two_once) (T := T) (A_law_draw := A_law_draw)
  have A_law_two_sided := ok_two_sided (P := l.prog) (w := w) (mg := mg) (base := base) (D := D_law_two_sided) (T := T) (A_law_two_once := A_law_two_once)
  have A_law_steps_right := ok_steps_right (P := l.prog) (w := w) (mg := mg) (base := base) (D := D_law_steps_right) (T := T) (A_by_rows := A_by_rows) (A_played := A_played) (A_is_hueing := A_is_hueing) (A_is_whole := A_is_whole)
  have A_law_pairings_taken := ok_pairings_taken (P := l.prog) (w := w) (mg := mg) (base := base) (D := D_law_pairings_taken) (T := T) (A_most_at := A_most_at) (A_only := A_only) (A_full_pairing := A_full_pairing)
  have A_law_pairing_right := ok_pairing_right (P := l.prog) (w := w) (mg := mg) (base := base) (D := D_law_pairing_right) (T := T) (A_pairing := A_pairing) (A_shows_pairing := A_shows_pairing) (A_by_pairings := A_by_pairings)
  have A_law_halves_right := ok_halves_right (P := l.prog) (w := w) (mg := mg) (base := base) (D := D_law_halves_right) (T := T) (A_most_at := A_most_at) (A_halves := A_halves) (A_only := A_only) (A_by_halves := A_by_halves)
  exact ok_law (fun_mk l_law c_law k_law) T A_law_tape A_law_draw A_law_two_sided A_law_pairings_taken A_law_pairing_right A_law_halves_right A_law_steps_right
theorem walk {l : PySem.W.OpenLaw} {q : Program} {loose : List Str} {XP : (Str → Option Value) → Heap → Prop} {YP : World → Heap → Prop} {d : DefRec} {K : Params → PySem.W.Frag} (hn : l.most = some 63) (hdf : d.params.defaults = [])
    (hY : ∀ (w : World) (h : Heap), YP w h → (K w.params).In h)
    (F : ∀ (w : World) (mg : Str → Option Value) (fa : Addr) (h : Heap), (K w.params).In h → h.Ns mainGlobals mg → mg d.name = some (.ref fa) →
      ∃ fd : FuncData, (∀ (s : Shared) (u : Value), BindsTo s fd ⟨[u], []⟩ [("_law_script", u)]) ∧ ∀ base : Heap, (K w.params).In base → base.Ns mainGlobals mg → FnOk l.prog w (K w.params) mg base CX0 11 fa fd ["_law_script"] (sp_law (K w.params))) :
    PySem.W.WalkO q loose XP YP l.row.toRowW d [] (fun f vs => PySem.call f vs) :=
  L2.walk_of (n := 63) (k := 11) (x := "_law_script") (CX := fun _ => CX0) (sp := fun w => sp_law (K w.params)) hn (by decide) hdf ⟨rfl, by decide, by decide⟩ hY F (fun _ _ a ns hl _ hS => ⟨a, ns, rfl, hS, by omega, fun _ _ => rfl⟩) fun _ _ _ _ _ z => z
end K87W
open PySem PySem.W PyProof.Rows
set_option maxRecDepth 100000 in
set_option maxHeartbeats 0 in
theorem PySem.Challenge.cw_huedties_k87_whole_two_sides_walked_holds : PySem.Challenge.rw_huedties_k87_whole_two_sides_walked.Holds := by
  w_on; o_law; k_head; (case hw => w_witness2)
  k_fill
  refine K87W.walk (l := PySem.Challenge.rw_huedties_k87_whole_two_sides_walked) rfl rfl (fun w h Y => PySem.W.kIn_of Y) ?F
  case F =>
    intro w mg fa h KX G hmg
    refine' K87W.all_mk KX G hmg ?t_len ?t_isinstance ?t_int ?t_bool ?t_list ?t_tuple ?t_range ?t_enumerate ?t_zip ?t_max ?t_min ?t_sum ?t_sorted ?t_set ?t_any ?t_all ?t_abs ?t_SIDES ?t_RING ?t_HUE ?t_DROP ?t_MOVE ?a_is_number ?l_is_number ?c_is_number ?k_is_number ?a_look_place ?l_look_place ?c_look_place ?k_look_place ?a_look_tie ?l_look_tie ?c_look_tie ?k_look_tie ?a_ties_at ?l_ties_at ?c_ties_at ?k_ties_at ?a_count_at ?l_count_at ?c_count_at ?k_count_at ?a_far_end ?l_far_end ?c_far_end ?k_far_end ?a_only ?l_only ?c_only ?k_only ?a_ties_by_place ?l_ties_by_place ?c_ties_by_place ?k_ties_by_place ?a_most_at ?l_most_at ?c_most_at ?k_most_at ?a_two_sides ?l_two_sides ?c_two_sides ?k_two_sides ?a_sides_of ?l_sides_of ?c_sides_of ?k_sides_of ?a_pairs_by_place ?l_pairs_by_place ?c_pairs_by_place ?k_pairs_by_place ?a_greatest_pairs ?l_greatest_pairs ?c_greatest_pairs ?k_greatest_pairs ?a_cover_of ?l_cover_of ?c_cover_of ?k_cover_of ?a_pairing ?l_pairing ?c_pairing ?k_pairing ?a_full_pairing ?l_full_pairing ?c_full_pairing ?k_full_pairing ?a_are_rising ?l_are_rising ?c_are_rising ?k_are_rising ?a_shows_pairing ?l_shows_pairing ?c_shows_pairing ?k_shows_pairing ?a_evened_ties ?l_evened_ties ?c_evened_ties ?k_evened_ties ?a_turns_of ?l_turns_of ?c_turns_of ?k_turns_of ?a_halves ?l_halves ?c_halves ?k_halves ?a_is_hue ?l_is_hue ?c_is_hue ?k_is_hue ?a_clash_of ?l_clash_of ?c_clash_of ?k_clash_of ?a_is_hueing ?l_is_hueing ?c_is_hueing ?k_is_hueing ?a_is_whole ?l_is_whole ?c_is_whole ?k_is_whole ?a_hues_at ?l_hues_at ?c_hues_at ?k_hues_at ?a_free_at ?l_free_at ?c_free_at ?k_free_at ?a_tie_of ?l_tie_of ?c_tie_of ?k_tie_of ?a_look_hues ?l_look_hues ?c_look_hues ?k_look_hues ?a_row_from ?l_row_from ?c_row_from ?k_row_from ?a_other_of ?l_other_of ?c_other_of ?k_other_of ?a_exchanged ?l_exchanged ?c_exchanged ?k_exchanged ?a_look_so ?l_look_so ?c_look_so ?k_look_so ?a_is_tie ?l_is_tie ?c_is_tie ?k_is_tie ?a_with_hue ?l_with_hue ?c_with_hue ?k_with_hue ?a_row_turned ?l_row_turned ?c_row_turned ?k_row_turned ?a_made_by ?l_made_by ?c_made_by ?k_made_by ?a_done_step ?l_done_step ?c_done_step ?k_done_step ?a_played ?l_played ?c_played ?k_played ?a_steps_for ?l_steps_for ?c_steps_for ?k_steps_for ?a_by_rows ?l_by_rows ?c_by_rows ?k_by_rows ?a_by_pairings ?l_by_pairings ?c_by_pairings ?k_by_pairings ?a_parts_of ?l_parts_of ?c_parts_of ?k_parts_of ?a_by_halves ?l_by_halves ?c_by_halves ?k_by_halves ?a_law_tape ?l_law_tape ?c_law_tape ?k_law_tape ?a_law_draw ?l_law_draw ?c_law_draw ?k_law_draw ?a_law_two_once ?l_law_two_once ?c_law_two_once ?k_law_two_once ?a_law_two_sided ?l_law_two_sided ?c_law_two_sided ?k_law_two_sided ?a_law_steps_right ?l_law_steps_right ?c_law_steps_right ?k_law_steps_right ?a_law_pairings_taken ?l_law_pairings_taken ?c_law_pairings_taken ?k_law_pairings_taken ?a_law_pairing_right ?l_law_pairing_right ?c_law_pairing_right ?k_law_pairing_right ?a_law_halves_right ?l_law_halves_right ?c_law_halves_right ?k_law_halves_right ?n_C1 ?pg_C1 ?hd_C1 ?po_C1 ?sa_C1 ?mk_C1 ?kc_C1 ?no_C1_web ?no_C1_by_place ?no_C1_side ?no_C1_came ?n_C2 ?pg_C2 ?hd_C2 ?po_C2 ?sa_C2 ?mk_C2 ?kc_C2 ?no_C2_web ?no_C2_near ?no_C2_taken ?a_m_go_from ?l_m_go_from ?c_m_go_from ?k_m_go_from ?i_m_go_from ?a_m_mate ?l_m_mate ?c_m_mate ?k_m_mate ?i_m_mate ?a_m_went_on ?l_m_went_on ?c_m_went_on ?k_m_went_on ?i_m_went_on ?a_m_sought ?l_m_sought ?c_m_sought ?k_m_sought ?i_m_sought ?a_m_turned ?l_m_turned ?c_m_turned ?k_m_turned ?i_m_turned ?a_m_ties ?l_m_ties ?c_m_ties ?k_m_ties ?i_m_ties ?a_m_Going ?l_m_Going ?c_m_Going ?k_m_Going ?i_m_Going ?a_m_Pairs ?l_m_Pairs ?c_m_Pairs ?k_m_Pairs ?i_m_Pairs ?a_law ?l_law ?c_law ?k_law
    (case t_len => k_is)
    (case t_isinstance => k_is)
    (case t_int => k_is)
    (case t_bool => k_is)
    (case t_list => k_is)
    (case t_tuple => k_is)
    (case t_range => k_is)
    (case t_enumerate => k_is)
    (case t_zip => k_is)
    (case t_max => k_is)
    (case t_min => k_is)
    (case t_sum => k_is)
    (case t_sorted => k_is)
    (case t_set => k_is)
    (case t_any => k_is)
    (case t_all => k_is)
    (case t_abs => k_is)
    (case t_SIDES => k_is)
    (case t_RING => k_is)
    (case t_HUE => k_is)
    (case t_DROP => k_is)
    (case t_MOVE => k_is)
    (case a_is_number => k_is)
    (case l_is_number => k_is)
    (case c_is_number => k_is)
    (case k_is_number => k_is)
    (case a_look_place => k_is)
    (case l_look_place => k_is)
    (case c_look_place => k_is)
    (case k_look_place => k_is)
    (case a_look_tie => k_is)
    (case l_look_tie => k_is)
    (case c_look_tie => k_is)
    (case k_look_tie => k_is)
    (case a_ties_at => k_is)
    (case l_ties_at => k_is)
    (case c_ties_at => k_is)
    (case k_ties_at => k_is)
    (case a_count_at => k_is)
    (case l_count_at => k_is)
    (case c_count_at => k_is)
    (case k_count_at => k_is)
    (case a_far_end => k_is)
    (case l_far_end => k_is)
    (case c_far_end => k_is)
    (case k_far_end => k_is)
    (case a_only => k_is)
    (case l_only => k_is)
    (case c_only => k_is)
    (case k_only => k_is)
    (case a_ties_by_place => k_is)
    (case l_ties_by_place => k_is)
    (case c_ties_by_place => k_is)
    (case k_ties_by_place => k_is)
    (case a_most_at => k_is)
    (case l_most_at => k_is)
    (case c_most_at => k_is)
    (case k_most_at => k_is)
    (case a_two_sides => k_is)
    (case l_two_sides => k_is)
    (case c_two_sides => k_is)
    (case k_two_sides => k_is)
    (case a_sides_of => k_is)
    (case l_sides_of => k_is)
    (case c_sides_of => k_is)
    (case k_sides_of => k_is)
    (case a_pairs_by_place => k_is)
    (case l_pairs_by_place => k_is)
    (case c_pairs_by_place => k_is)
    (case k_pairs_by_place => k_is)
    (case a_greatest_pairs => k_is)
    (case l_greatest_pairs => k_is)
    (case c_greatest_pairs => k_is)
    (case k_greatest_pairs => k_is)
    (case a_cover_of => k_is)
    (case l_cover_of => k_is)
    (case c_cover_of => k_is)
    (case k_cover_of => k_is)
    (case a_pairing => k_is)
    (case l_pairing => k_is)
    (case c_pairing => k_is)
    (case k_pairing => k_is)
    (case a_full_pairing => k_is)
    (case l_full_pairing => k_is)
    (case c_full_pairing => k_is)
    (case k_full_pairing => k_is)
    (case a_are_rising => k_is)
    (case l_are_rising => k_is)
    (case c_are_rising => k_is)
    (case k_are_rising => k_is)
    (case a_shows_pairing => k_is)
    (case l_shows_pairing => k_is)
    (case c_shows_pairing => k_is)
    (case k_shows_pairing => k_is)
    (case a_evened_ties => k_is)
    (case l_evened_ties => k_is)
    (case c_evened_ties => k_is)
    (case k_evened_ties => k_is)
    (case a_turns_of => k_is)
    (case l_turns_of => k_is)
    (case c_turns_of => k_is)
    (case k_turns_of => k_is)
    (case a_halves => k_is)
    (case l_halves => k_is)
    (case c_halves => k_is)
    (case k_halves => k_is)
    (case a_is_hue => k_is)
    (case l_is_hue => k_is)
    (case c_is_hue => k_is)
    (case k_is_hue => k_is)
    (case a_clash_of => k_is)
    (case l_clash_of => k_is)
    (case c_clash_of => k_is)
    (case k_clash_of => k_is)
    (case a_is_hueing => k_is)
    (case l_is_hueing => k_is)
    (case c_is_hueing => k_is)
    (case k_is_hueing => k_is)
    (case a_is_whole => k_is)
    (case l_is_whole => k_is)
    (case c_is_whole => k_is)
    (case k_is_whole => k_is)
    (case a_hues_at => k_is)
    (case l_hues_at => k_is)
    (case c_hues_at => k_is)
    (case k_hues_at => k_is)
    (case a_free_at => k_is)
    (case l_free_at => k_is)
    (case c_free_at => k_is)
    (case k_free_at => k_is)
    (case a_tie_of => k_is)
    (case l_tie_of => k_is)
    (case c_tie_of => k_is)
    (case k_tie_of => k_is)
    (case a_look_hues => k_is)
    (case l_look_hues => k_is)
    (case c_look_hues => k_is)
    (case k_look_hues => k_is)
    (case a_row_from => k_is)
    (case l_row_from => k_is)
    (case c_row_from => k_is)
    (case k_row_from => k_is)
    (case a_other_of => k_is)
    (case l_other_of => k_is)
    (case c_other_of => k_is)
    (case k_other_of => k_is)
    (case a_exchanged => k_is)
    (case l_exchanged => k_is)
    (case c_exchanged => k_is)
    (case k_exchanged => k_is)
    (case a_look_so => k_is)
    (case l_look_so => k_is)
    (case c_look_so => k_is)
    (case k_look_so => k_is)
    (case a_is_tie => k_is)
    (case l_is_tie => k_is)
    (case c_is_tie => k_is)
    (case k_is_tie => k_is)
    (case a_with_hue => k_is)
    (case l_with_hue => k_is)
    (case c_with_hue => k_is)
    (case k_with_hue => k_is)
    (case a_row_turned => k_is)
    (case l_row_turned => k_is)
    (case c_row_turned => k_is)
    (case k_row_turned => k_is)
    (case a_made_by => k_is)
    (case l_made_by => k_is)
    (case c_made_by => k_is)
    (case k_made_by => k_is)
    (case a_done_step => k_is)
    (case l_done_step => k_is)
    (case c_done_step => k_is)
    (case k_done_step => k_is)
    (case a_played => k_is)
    (case l_played => k_is)
    (case c_played => k_is)
    (case k_played => k_is)
    (case a_steps_for => k_is)
    (case l_steps_for => k_is)
    (case c_steps_for => k_is)
    (case k_steps_for => k_is)
    (case a_by_rows => k_is)
    (case l_by_rows => k_is)
    (case c_by_rows => k_is)
    (case k_by_rows => k_is)
    (case a_by_pairings => k_is)
    (case l_by_pairings => k_is)
    (case c_by_pairings => k_is)
    (case k_by_pairings => k_is)
    (case a_parts_of => k_is)
    (case l_parts_of => k_is)
    (case c_parts_of => k_is)
    (case k_parts_of => k_is)
    (case a_by_halves => k_is)
    (case l_by_halves => k_is)
    (case c_by_halves => k_is)
    (case k_by_halves => k_is)
    (case a_law_tape => k_is)
    (case l_law_tape => k_is)
    (case c_law_tape => k_is)
    (case k_law_tape => k_is)
    (case a_law_draw => k_is)
    (case l_law_draw => k_is)
    (case c_law_draw => k_is)
    (case k_law_draw => k_is)
    (case a_law_two_once => k_is)
    (case l_law_two_once => k_is)
    (case c_law_two_once => k_is)
    (case k_law_two_once => k_is)
    (case a_law_two_sided => k_is)
    (case l_law_two_sided => k_is)
    (case c_law_two_sided => k_is)
    (case k_law_two_sided => k_is)
    (case a_law_steps_right => k_is)
    (case l_law_steps_right => k_is)
    (case c_law_steps_right => k_is)
    (case k_law_steps_right => k_is)
    (case a_law_pairings_taken => k_is)
    (case l_law_pairings_taken => k_is)
    (case c_law_pairings_taken => k_is)
    (case k_law_pairings_taken => k_is)
    (case a_law_pairing_right => k_is)
    (case l_law_pairing_right => k_is)
    (case c_law_pairing_right => k_is)
    (case k_law_pairing_right => k_is)
    (case a_law_halves_right => k_is)
    (case l_law_halves_right => k_is)
    (case c_law_halves_right => k_is)
    (case k_law_halves_right => k_is)
    (case n_C1 => k_is)
    (case pg_C1 => k_is)
    (case hd_C1 => k_is)
    (case po_C1 => k_is)
    (case sa_C1 => k_is)
    (case mk_C1 => k_is)
    (case kc_C1 => k_is)
    (case no_C1_web => k_is)
    (case no_C1_by_place => k_is)
    (case no_C1_side => k_is)
    (case no_C1_came => k_is)
    (case n_C2 => k_is)
    (case pg_C2 => k_is)
    (case hd_C2 => k_is)
    (case po_C2 => k_is)
    (case sa_C2 => k_is)
    (case mk_C2 => k_is)
    (case kc_C2 => k_is)
    (case no_C2_web => k_is)
    (case no_C2_near => k_is)
    (case no_C2_taken => k_is)
    (case a_m_go_from => k_is)
    (case l_m_go_from => k_is)
    (case c_m_go_from => k_is)
    (case k_m_go_from => k_is)
    (case i_m_go_from => k_is)
    (case a_m_mate => k_is)
    (case l_m_mate => k_is)
    (case c_m_mate => k_is)
    (case k_m_mate => k_is)
    (case i_m_mate => k_is)
    (case a_m_went_on => k_is)
    (case l_m_went_on => k_is)
    (case c_m_went_on => k_is)
    (case k_m_went_on => k_is)
    (case i_m_went_on => k_is)
    (case a_m_sought => k_is)
    (case l_m_sought => k_is)
    (case c_m_sought => k_is)
    (case k_m_sought => k_is)
    (case i_m_sought => k_is)
    (case a_m_turned => k_is)
    (case l_m_turned => k_is)
    (case c_m_turned => k_is)
    (case k_m_turned => k_is)
    (case i_m_turned => k_is)
    (case a_m_ties => k_is)
    (case l_m_ties => k_is)
    (case c_m_ties => k_is)
    (case k_m_ties => k_is)
    (case i_m_ties => k_is)
    (case a_m_Going => k_is)
    (case l_m_Going => k_is)
    (case c_m_Going => k_is)
    (case k_m_Going => k_is)
    (case i_m_Going => k_is)
    (case a_m_Pairs => k_is)
    (case l_m_Pairs => k_is)
    (case c_m_Pairs => k_is)
    (case k_m_Pairs => k_is)
    (case i_m_Pairs => k_is)
    (case a_law => k_is)
    (case l_law => k_is)
    (case c_law => k_is)
    (case k_law => k_is)
