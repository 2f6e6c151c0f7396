import PyProof.Rows.All
import Wide.All
import OpenK.AllK
import Wide.FinOn
import HandS.ForMost
import HandS.Walk
import HandS.Zip
import HandS.Rev
import HandS.Conv
import HandS.Deep
import HandS.Style
import HandS.WideBits
import HandS.IsInst
import HandS.More
import KE.SortData
import KE.KDictKeyed
import KE.KDictPairs
import KE.GoesEnum
import HandS.RevTup
import PySem.Challenge.RW_readgrove_k29_whole_all_readings_unlike
set_option Elab.async false
set_option linter.all false
set_option maxRecDepth 100000
set_option maxHeartbeats 4000000
namespace Rg
open PySem PySem.Spec PyProof.Rows L2
section
variable {X : Cx}
/-- xs == [], xs != [] -/
def rEqE (K : PySem.W.Frag) : R2 := fun x y H Q => ∃ (a b : Addr) (xs : List V), x = .ref a ∧ y = .ref b ∧ SqL K H a xs ∧ SqL K H b [] ∧ Q (.bl xs.isEmpty) H
def rNeE (K : PySem.W.Frag) : R2 := fun x y H Q => ∃ (a b : Addr) (xs : List V), x = .ref a ∧ y = .ref b ∧ SqL K H a xs ∧ SqL K H b [] ∧ Q (.bl (!xs.isEmpty)) H
theorem op_eqE (hu : X.A.units < cLine) : OpR X (compareOp .Eq) (rEqE X.K) := by
  intro pins s σ H x y v u Q I rx ry h
  obtain ⟨a, b, xs, rfl, rfl, ha, hb, q⟩ := h
  cases rx
  cases ry
  obtain ⟨its, r, pl, _⟩ := I.list ha
  obtain ⟨its2, r2, pl2, _⟩ := I.list hb
  cases r2
  cases r with
  | nil =>
    refine SeqAt.eq_listAt (e := fun _ => true) pl.isList pl2.isList rfl hu (fun j h1 _ => absurd h1 (Nat.not_lt_zero _)) ⟨.bl true, H, I, rfl, q⟩
  | cons r t =>
    refine SeqAt.eq_list_lengthsAt pl.isList pl2.isList (by simp) hu ⟨.bl false, H, I, rfl, q⟩
theorem op_neE (hu : X.A.units < cLine) : OpR X (compareOp .NotEq) (rNeE X.K) := by
  intro pins s σ H x y v u Q I rx ry h
  obtain ⟨a, b, xs, rfl, rfl, ha, hb, q⟩ := h
  cases rx
  cases ry
  obtain ⟨its, r, pl, _⟩ := I.list ha
  obtain ⟨its2, r2, pl2, _⟩ := I.list hb
  cases r2
  cases r with
  | nil =>
    exact SeqAt.RcNeAt.lists (e := fun _ => true) pl.isList pl2.isList rfl hu (fun j h1 _ => absurd h1 (Nat.not_lt_zero _)) _ _ _ _ ⟨.bl false, H, I, rfl, q⟩
  | cons r t =>
    exact SeqAt.RcNeAt.lists_lengths pl.isList pl2.isList (by simp) hu _ _ _ _ ⟨.bl true, H, I, rfl, q⟩

/-- a op1 b op2 c op3 d as a test -/
def tChain3 (r r' r'' : R2) (ta tb tc td : TE) : TT := fun σ H Q => ta σ H fun x H1 => tb σ H1 fun y H2 => r x y H2 fun z H3 => ∃ k, z = .bl k ∧
  (if k = true then tc σ H3 fun w' H4 => r' y w' H4 fun z' H5 => ∃ k', z' = .bl k' ∧ (if k' = true then td σ H5 fun w2 H6 => r'' w' w2 H6 fun z2 H7 => ∃ k2, z2 = .bl k2 ∧ Q k2 H7 else Q false H5) else Q false H3)
theorem pt_chain3 {a b c d : Expr} {ta tb tc td : TE} {pos : Pos} {op op' op'' : CmpOp} {r r' r'' : R2} (ho : OpR X (compareOp op) r) (ho' : OpR X (compareOp op') r') (ho'' : OpR X (compareOp op'') r'') (ha : PE X a ta) (hb : PE X b tb) (hc : PE X c tc) (hd : PE X d td)
    (hm : lastMarks [op, op', op''] [b, c, d] = false := by with_unfolding_all rfl) : PT X (.Compare a [op, op', op''] [b, c, d] pos) (tChain3 r r' r'' ta tb tc td) := by
  refine ⟨fun pins s σ H Q I h => ?_⟩
  refine isTrue_chain (thn (ha.run pins s σ H _ I h) fun v s1 ⟨x, H1, I1, r1, q1⟩ => test_link (thn (hb.run pins s1 σ H1 _ I1 q1) fun u s2 ⟨y, H2, I2, r2, q2⟩ =>
    thn (ho pins s2 σ H2 x y v u _ I2 r1 r2 q2) fun e s3 ⟨z, H3, I3, r3, k, ez, q3⟩ => ?_)) hm
  subst ez
  cases r3
  refine wpAny_truthy_bool ?_
  cases k with
  | false => exact ite_ff ⟨H3, I3, q3⟩
  | true =>
    refine ite_tt (test_link (thn (hc.run pins s3 σ H3 _ I3 q3) fun w' s4 ⟨z', H4, I4, r4, q4⟩ => thn (ho' pins s4 σ H4 y z' u w' _ I4 r2 r4 q4) fun d' s5 ⟨z2, H5, I5, r5, k2, e2, q5⟩ => ?_))
    subst e2
    cases r5
    refine wpAny_truthy_bool ?_
    cases k2 with
    | false => exact ite_ff ⟨H5, I5, q5⟩
    | true =>
      refine ite_tt (test_last (thn (hd.run pins s5 σ H5 _ I5 q5) fun w3 s6 ⟨z3, H6, I6, r6, q6⟩ => thn (ho'' pins s6 σ H6 z' z3 w' w3 _ I6 r4 r6 q6) fun d3 s7 ⟨z4, H7, I7, r7, k3, e3, q7⟩ => ?_))
      subst e3
      cases r7
      exact wpAny_truthy_bool ⟨H7, I7, q7⟩

/-- the thing that an expression gives is known from here on (it will never be written) -/
def tFrz (t : TE) : TE := fun σ H Q => t σ H fun x H1 => ∃ d u, x = .ref d ∧ H1 d = some u ∧ Mut (some u) ∧ ∀ od, Q (.ref d) (upd H1 d (.frz od u))
theorem pe_frz {e : Expr} {t : TE} (h : PE X e t) : PE X e (tFrz t) := by
  refine ⟨fun pins s σ H Q I hw => ?_⟩
  refine thn (h.run pins s σ H _ I hw) fun v s1 ⟨x, H1, I1, r, q⟩ => ?_
  obtain ⟨d, u, rfl, hd, mu, q⟩ := q
  obtain ⟨od, I2⟩ := I1.lock hd mu
  exact ⟨.ref d, _, I2, r, q od⟩

/-- d.setdefault(k, x), k a tuple -/
def rSetdT : V → List V → Hp → VK → Prop := fun x vs H Q => ∃ (a b : Addr) (kvs : List (List Key × V)) (k : List Key) (d : V), x = .ref a ∧ vs = [.ref b, d] ∧ H a = some (.dT kvs) ∧ H b = some (.tup (k.map kV)) ∧ kvs.length < sizeLine ∧
  (∀ v, valV kvs k = some v → Q v H) ∧ (valV kvs k = none → Q d (upd H a (.dT (putK kvs k d))))
theorem mt_setdT (hu : X.A.units + 1 < cLine) : MtR X "dict.setdefault" rSetdT := by
  intro pins s σ H x vs v us Q I rx rv h
  obtain ⟨a, b, kvs, k, d, rfl, rfl, e, eb, l, q1, q2⟩ := h
  cases rx
  obtain ⟨u1, u2, rfl, r1, r2⟩ := rv.two
  cases r1
  obtain ⟨z, hd, xs, rel, dd⟩ := dt_of I.hok e
  have hz : xs.length ≤ sizeLine := by rw [← Paired.length rel]; exact z
  have hl : (putK kvs k d).length ≤ sizeLine := by have := length_putK kvs k d; omega
  have rk := rel.val k
  refine call_setdefault_heap (hsz := hz) (tupleKind_room_in1 hu) (key_of I.hok eb) hd dd (fun p hp => ?_) fun hn h' dd' hs => ?_
  · rw [hp] at rk
    cases hv : valV kvs k with
    | none => rw [hv] at rk; exact rk.elim
    | some v => rw [hv] at rk; exact ⟨v, H, I.tok _, rk, q1 v hv⟩
  · rw [hn] at rk
    have hv : valV kvs k = none := by
      cases hv : valV kvs k with
      | none => rfl
      | some v => rw [hv] at rk; exact rk.elim
    refine ⟨d, _, ?_, r2, q2 hv⟩
    obtain ⟨q, es, ep, hq, h2, h3, h4, _, h5⟩ := dd'
    refine d_write I (by rw [e]; exact True.intro) hs ⟨q, hq⟩ ⟨hl, hd, _, (rel.put k eb r2).keeps fun c ys ec => ?_, q, es, ep, hq, h2, h3, h4, h5⟩
    rw [upd_ne (ne_of ec e (fun z => nomatch z))]
    exact ec
end
end Rg
namespace Rg
open PySem PySem.Spec PyProof.Rows L2
theorem storedAll_nd {K : Type} [DecidableEq K] : ∀ (ps xs : List (K × Addr × Value)), ((xs ++ ps).map (·.1)).Nodup → storedAllH xs ps = xs ++ ps
  | [], xs, _ => by simp [storedAllH]
  | p :: ps, xs, h => by
    have hn : atKey xs p.1 = none := by
      unfold atKey
      rw [Option.map_eq_none_iff, List.find?_eq_none]
      intro x hx
      simp only [List.map_append, List.map_cons] at h
      have := (List.nodup_append.mp h).2.2 x.1 (List.mem_map_of_mem hx) p.1 (List.mem_cons_self ..)
      simpa using this
    have e : storedH xs p.1 p.2.1 p.2.2 = xs ++ [p] := by
      unfold storedH
      rw [hn]
      rfl
    show storedAllH (storedH xs p.1 p.2.1 p.2.2) ps = _
    rw [e, storedAll_nd ps (xs ++ [p]) (by simpa using h)]
    simp
section
variable {X : Cx}
/-- dict(xs), xs a list of pairs whose keys are tuples, no key twice -/
def PT (K : PySem.W.Frag) (H : Hp) : List Addr → List (List Key × V) → Prop := Paired fun p kv => ∃ b, SqT K H p [.ref b, kv.2] ∧ H b = some (.tup (kv.1.map kV))
theorem ptPairs {pins : List (Addr × Obj)} {σ : L2.St} {H : Hp} {s : Shared} (I : L2.Inv X pins σ H s) : ∀ {ps : List Addr} {kvs : List (List Key × V)}, PT X.K H ps kvs →
    ∃ prs : List (List Key × Addr × Value), KT H kvs prs ∧ prs.length = ps.length ∧ ∀ (j : Nat) (q : List Key × Addr × Value), prs[j]? = some q → ∃ b, ps[j]? = some b ∧ IsTup s.heap b #[.ref q.2.1, q.2.2]
  | _, _, .nil => ⟨[], .nil, rfl, fun j q e => by simp at e⟩
  | _, _, .cons (a := p) (b := kv) h t => by
    obtain ⟨prs, r, hl, hp⟩ := ptPairs I t
    obtain ⟨b, h1, hb⟩ := h
    obtain ⟨its, rv, ht, _⟩ := I.tuple h1
    obtain ⟨u, y, ei, ru, ry⟩ := vals2 rv
    subst ei
    cases ru
    refine ⟨(kv.1, b, y) :: prs, .cons ⟨rfl, hb, ry⟩ r, by rw [List.length_cons, List.length_cons, hl], fun j q e => ?_⟩
    cases j with
    | zero =>
      have e' : (kv.1, b, y) = q := Option.some.inj e
      subst e'
      exact ⟨p, rfl, ht⟩
    | succ j =>
      obtain ⟨c, e1, e2⟩ := hp j q (by simpa using e)
      exact ⟨c, by simpa using e1, e2⟩
theorem kt_keys {H : Hp} {kvs : List (List Key × V)} {xs : List (List Key × Addr × Value)} (r : KT H kvs xs) : kvs.map (·.1) = xs.map (·.1) := by
  induction r with
  | nil => rfl
  | cons h t ih => rw [List.map_cons, List.map_cons, ih, h.1]
theorem kt_mem {H : Hp} {kvs : List (List Key × V)} {xs : List (List Key × Addr × Value)} (r : KT H kvs xs) : ∀ x ∈ xs, H x.2.1 = some (.tup (x.1.map kV)) := by
  induction r with
  | nil => intro x hx; cases hx
  | cons h t ih =>
    intro x hx
    rcases List.mem_cons.mp hx with rfl | hx
    · rw [← h.1]; exact h.2.1
    · exact ih x hx
theorem call_dictT (hcalm : X.calm = true) (hu : X.A.units + 2 < cLine) : CallR X (.type "dict") (fun xs H Q => ∃ (a : Addr) (ps : List Addr) (kvs : List (List Key × V)), xs = [.ref a] ∧ SqL X.K H a (ps.map V.ref) ∧ PT X.K H ps kvs ∧ (kvs.map (·.1)).Nodup ∧
    ∀ p, H p = none → Q (.ref p) (upd H p (.dT kvs))) := by
  intro pins s σ H xs us Q I r q
  obtain ⟨a, ps, kvs, ex, hq, hp, hnd, q⟩ := q
  subst ex
  obtain ⟨u, eu, rx⟩ := vals1 r
  subst eu
  cases rx
  obtain ⟨its, rv, pl, hz⟩ := I.list hq
  have ei := refs_at rv
  subst ei
  rw [List.length_map] at hz
  obtain ⟨prs, rel, hl, hpr⟩ := ptPairs I hp
  obtain ⟨o, n, ho, hc, hd, hdat⟩ := pl
  have hm : (s.heap.objs.size == sysModules) = false := beq_eq_false_iff_ne.mpr (Nat.ne_of_gt I.big)
  have his : ∀ x ∈ prs, (tupleKind (mixKind X.prog X.w)).is s.heap x.1 x.2.1 := fun x hx => key_of I.hok (kt_mem rel x hx)
  have hst : storedAllH [] prs = prs := by
    rw [storedAll_nd prs [] (by rw [List.nil_append, ← kt_keys rel]; exact hnd)]
    rfl
  refine call_dict_pairsH (knd := tupleKind (mixKind X.prog X.w)) (ps := prs)
    (PairArg.list a (ps.map Value.ref).toArray (fun j => ps[j]?.getD 0) (prs.map fun x => (Value.ref x.2.1, x.2.2))) (I.ok.hd hcalm) (show X.A.units + 1 + 1 < cLine from hu)
    ⟨⟨o, n, ho, hc, hd, hdat⟩, ⟨by simp [hl], fun j k v e => ?_⟩⟩ ⟨by simp, fun i key v e => ?_⟩ ?_ (by simpa [hl] using hz) fun h' tk hd' hk => ?_
  · rw [List.getElem?_map] at e
    cases hj : prs[j]? with
    | none => rw [hj] at e; cases e
    | some x =>
      rw [hj] at e
      have e' : (Value.ref x.2.1, x.2.2) = (k, v) := Option.some.inj e
      obtain ⟨b, hb, ht⟩ := hpr j x hj
      obtain ⟨e1, e2⟩ := Prod.mk.inj e'
      subst e1 e2
      refine ⟨by simp [hb], .inl ?_⟩
      show IsTup s.heap (ps[j]?.getD 0) _
      rw [hb]
      exact ht
  · have e : (prs.map fun x => (Value.ref x.2.1, x.2.2))[i]? = some (key, v) := e
    rw [List.getElem?_map] at e
    cases hj : prs[i]? with
    | none => rw [hj] at e; cases e
    | some x =>
      rw [hj] at e
      have e' : (Value.ref x.2.1, x.2.2) = (key, v) := Option.some.inj e
      obtain ⟨e1, e2⟩ := Prod.mk.inj e'
      subst e1 e2
      exact ⟨x.1, x.2.1, rfl, rfl⟩
  · intro h' hk x hx
    exact tupleKind_stays.stays (fun b o' vs n' e _ => hk b o' (Nat.ne_of_lt (Heap.lt_size e)) (by simp) e) (his x hx)
  · rw [hst] at hd'
    obtain ⟨q', es, ep, hq', h2, h3, h4, _, h5⟩ := hd'
    have hf : H s.heap.objs.size = none := I.hok.fresh (Nat.le_refl _)
    refine ⟨.ref s.heap.objs.size, upd H s.heap.objs.size (.dT kvs), I.laid (t' := tk) (fun b o e => hk b o (by simp) e) (Nat.le_refl _) (show ObjOk X.prog X.w _ _ _ (.dT kvs) from ⟨?_, hm, prs, rel.keeps fun c ys ec => ?_, q', es, ep, hq', h2, h3, h4, h5⟩), rfl, q _ hf⟩
    · rw [Paired.length rel, hl]; exact hz
    · rw [upd_ne (ne_of_none ec hf)]; exact ec
end
end Rg
namespace Rg
open PySem PySem.Spec PyProof.Rows L2 PySem.W
theorem pair_each {β : Type} {S : V → β → Prop} : ∀ {vs : List V} {bs : List β} {us : List Value}, Paired S vs bs → Vals vs us → EachIs (fun (u : Value) b => ∃ x, RelV x u ∧ S x b) us bs
  | _, _, _, .nil, .nil => .nil
  | _, _, _, .cons h t, .cons r q => .cons ⟨_, r, h⟩ (pair_each t q)
theorem each_pair {β : Type} {S : V → β → Prop} : ∀ {us : List Value} {bs : List β}, EachIs (fun (u : Value) b => ∃ x, RelV x u ∧ S x b) us bs → ∃ vs, Vals vs us ∧ Paired S vs bs
  | _, _, .nil => ⟨[], .nil, .nil⟩
  | _, _, .cons ⟨x, r, h⟩ t => by
    obtain ⟨vs, q, p⟩ := each_pair t
    exact ⟨x :: vs, .cons r q, .cons h p⟩
section
variable {X : Cx}
/-- sorted(xs), xs a list of data of one kind -/
def rSrtL (K : PySem.W.Frag) {β : Type} (S : V → β → Prop) (enc : β → PyData) : List V → Hp → VK → Prop := fun xs H Q => ∃ (a : Addr) (vs : List V) (bs : List β), xs = [.ref a] ∧ SqL K H a vs ∧ Paired S vs bs ∧ (∀ v b, S v b → Dp K H v (enc b)) ∧ AllAlike (bs.map enc) ∧ Sortable (bs.map enc) ∧ (∀ b ∈ bs, (enc b).depth ≤ 8) ∧
  ∀ p out, H p = none → Paired S out (bs.mergeSort (dataLe false enc)) → Q (.ref p) (upd H p (.lst out))
theorem cr_srtL {β : Type} {S : V → β → Prop} {enc : β → PyData} (hu : X.A.units + 10 < cLine) : CallR X (.builtin "sorted") (rSrtL X.K S enc) := by
  intro pins s σ H xs us Q I r q
  obtain ⟨a, vs, bs, ex, hq, hp, hS, hal, hk, hdep, q⟩ := q
  subst ex
  obtain ⟨u, eu, rx⟩ := vals1 r
  subst eu
  cases rx
  obtain ⟨its, rv, pl, hz⟩ := I.list hq
  have e := pair_each hp rv
  have hl : bs.length = vs.length := (Paired.length hp).symm
  refine sorted_data (enc := enc) (R := fun (u : Value) b => ∃ x, RelV x u ∧ S x b) pl.isList e (e.mono fun u b ⟨x, hx, hs⟩ => Dp.reads I (enc b) x u (hS x b hs) hx) hal hk (by omega) (fun b hb => ?_) fun out ho eo => ?_
  · have := hdep b hb
    omega
  · obtain ⟨outV, r1, p1⟩ := each_pair eo
    obtain ⟨c, hat⟩ := sortedAll_at s.heap its out.toArray
    have hf : H (s.heap.objs.size + 1) = none := I.hok.fresh (Nat.le_succ _)
    have h2 : outV.length = out.length := r1.length
    exact ⟨.ref (s.heap.objs.size + 1), _, I.laid (t' := s.toks) (fun b o e => sortedAll_old e) (Nat.le_succ _) (show ObjOk X.prog X.w _ _ _ (.lst outV) from ⟨by omega, out, c, r1, hat⟩), rfl, q _ _ hf p1⟩

def kD : Key → PyData
  | .inl i => .int i
  | .inr x => .str x
theorem reads_keys {h : Heap} : ∀ {ks : List Key} {us : List Value}, Vals (ks.map kV) us → ReadsAll h us (ks.map kD) []
  | [], _, r => by cases r; exact .nil
  | .inl i :: ks, _, r => by
    cases r with
    | cons q t =>
      obtain ⟨t', rfl⟩ := q
      exact .cons (as := []) (.int i t') (reads_keys t)
  | .inr x :: ks, _, r => by
    cases r with
    | cons q t =>
      obtain ⟨t', rfl⟩ := q
      exact .cons (as := []) (.str x t') (reads_keys t)
theorem reads_tup {pins : List (Addr × Obj)} {σ : L2.St} {H : Hp} {s : Shared} {X : Cx} {ks : List Key} {c : Addr} (I : L2.Inv X pins σ H s) (h : H c = some (.tup (ks.map kV))) : Reads s.heap (.ref c) (.tuple (ks.map kD)) [] := by
  obtain ⟨_, its, r, o, e1, e2, n, e3⟩ := (show ObjOk X.prog X.w H s.heap c (.tup (ks.map kV)) from I.hok c _ h)
  exact .tuple e1 e2 e3 (reads_keys r)
/-- sorted(d), d a dict whose keys are tuples -/
def rSrtD {β : Type} (key : β → List Key) (enc : β → PyData) (K : PySem.W.Frag) : List V → Hp → VK → Prop := fun xs H Q => ∃ (a : Addr) (kvs : List (List Key × V)) (bs : List β), xs = [.ref a] ∧ Rd H a (.dT kvs) ∧ kvs.map (·.1) = bs.map key ∧
  (∀ b, enc b = .tuple ((key b).map kD)) ∧ AllAlike (bs.map enc) ∧ Sortable (bs.map enc) ∧ (∀ b ∈ bs, (enc b).depth ≤ 8) ∧
  ∀ p out, H p = none → Paired (fun v b => H v = some (.tup ((key b).map kV))) out (bs.mergeSort (dataLe false enc)) → Q (.ref p) (upd H p (.lst (out.map V.ref)))
theorem keys_each {H : Hp} {β : Type} {key : β → List Key} : ∀ {kvs : List (List Key × V)} {xs : List (List Key × Addr × Value)} {bs : List β}, KT H kvs xs → kvs.map (·.1) = bs.map key →
    EachIs (fun (u : Value) b => ∃ c, u = .ref c ∧ H c = some (.tup ((key b).map kV))) (xs.map fun x => Value.ref x.2.1) bs
  | _, _, [], .nil, _ => .nil
  | _, _, _ :: _, .nil, h => by simp at h
  | _, _, [], .cons _ _, h => by simp at h
  | _, _, b :: bs, .cons h t, e => by
    simp only [List.map_cons, List.cons.injEq] at e
    refine .cons ⟨_, rfl, ?_⟩ (keys_each t e.2)
    rw [← e.1]
    exact h.2.1
theorem each_refs {H : Hp} {β : Type} {key : β → List Key} : ∀ {us : List Value} {bs : List β}, EachIs (fun (u : Value) b => ∃ c, u = .ref c ∧ H c = some (.tup ((key b).map kV))) us bs →
    ∃ cs : List Addr, us = cs.map Value.ref ∧ Paired (fun v b => H v = some (.tup ((key b).map kV))) cs bs
  | _, _, .nil => ⟨[], rfl, .nil⟩
  | _, _, .cons ⟨c, e, h⟩ t => by
    obtain ⟨cs, q, p⟩ := each_refs t
    exact ⟨c :: cs, by rw [List.map_cons, ← q, e], .cons h p⟩
theorem cr_srtD {β : Type} {key : β → List Key} {enc : β → PyData} (hc : X.calm = true) (hu : X.A.units + 10 < cLine) : CallR X (.builtin "sorted") (rSrtD key enc X.K) := by
  intro pins s σ H xs us Q I r q
  obtain ⟨d, kvs, bs, ex, hd, hkeys, hS, hal, hk, hdep, q⟩ := q
  subst ex
  obtain ⟨u, eu, rx⟩ := vals1 r
  subst eu
  cases rx
  obtain ⟨z, hs, ks, pr, o, es, ep, ho, hx, hdt, he, hn⟩ := (show ObjOk X.prog X.w H s.heap d (.dT kvs) from hd.ok I.hok)
  have l1 : es.size = ks.length := size_of_entries he
  have l2 : kvs.length = ks.length := Paired.length pr
  refine Calls.call_function_entry PyProof.Rows.kind_sorted PyProof.Rows.plain_sorted PyProof.Rows.entry_sorted (PyProof.Rows.args_sorted1 _) ?_
  unfold Builtin.«sorted»
  refine wpAny_bind (m := checkCount "sorted" 1 1 _) (wpAny_pure ?_)
  refine wpAny_bind (PySem.W.kdu_collect (A := X.A.in1) (kdl_raw hs hx hdt) (I.ok.hd hc) ho (by omega) fun h' tk acc' kp it => ?_)
  have ea : acc'.toList = ks.map fun x => Value.ref x.2.1 := by
    have hl : acc'.toList.length = ks.length := by rw [Array.length_toList, it.1]; exact l1
    apply List.ext_getElem?
    intro j
    rw [List.getElem?_map]
    cases hj : acc'.toList[j]? with
    | none =>
      have h1 := List.getElem?_eq_none_iff.mp hj
      rw [List.getElem?_eq_none (by omega)]
      all_goals rfl
    | some v =>
      obtain ⟨en, hen, hv⟩ := it.2 j v (by rw [← Array.getElem?_toList]; exact hj)
      have qe := entry_at he j
      rw [hen] at qe
      cases hb : ks[j]? with
      | none =>
        rw [hb] at qe
        exact nomatch (show some en = none from qe)
      | some b =>
        rw [hb] at qe
        have e2 : en = entryOfKey (tupleKind (mixKind X.prog X.w)) b := Option.some.inj qe
        rw [hv, e2]
        all_goals rfl
  have I1 : L2.Inv X pins σ H { s with heap := h', toks := tk } := I.kept kp
  have hlen : acc'.toList.length = bs.length := by
    have e1 := congrArg List.length hkeys
    rw [List.length_map, List.length_map] at e1
    rw [ea, List.length_map]
    omega
  have hbz : bs.length ≤ sizeLine := by
    have e1 := congrArg List.length hkeys
    rw [List.length_map, List.length_map] at e1
    omega
  refine wpAny_bind (wpAny_newList ?_ (by rw [hlen]; exact hbz))
  have hoL : (h'.push (seqObj "list" acc'.toList.toArray 0)).get? h'.objs.size = some (seqObj "list" acc'.toList.toArray 0) := Heap.get?_push_size _ rfl
  show wpAny _ _ _ _ _ { s with heap := h'.push (seqObj "list" acc'.toList.toArray 0), toks := tk }
  have I2 : L2.Inv X pins σ H { s with heap := h'.push (seqObj "list" acc'.toList.toArray 0), toks := tk } := I1.kept (t' := tk) fun b o e => Heap.get?_push_of_some _ e
  have e0 : EachIs (fun (u : Value) b => ∃ c, u = .ref c ∧ H c = some (.tup ((key b).map kV))) acc'.toList bs := by rw [ea]; exact keys_each pr hkeys
  have er : EachIs (fun v b => ∃ as, Reads (h'.push (seqObj "list" acc'.toList.toArray 0)) v (enc b) as ∧ h'.objs.size ∉ as) acc'.toList bs :=
    e0.mono fun v b ⟨c, ev, hc'⟩ => by
      subst ev
      rw [hS b]
      exact ⟨[], reads_tup I2 hc', by simp⟩
  refine wpAny_bind (wpAny_holding (list_sort_data (s := { s with heap := h'.push (seqObj "list" acc'.toList.toArray 0), toks := tk }) (enc := enc) hoL e0 er hal hk hbz (fun b hb => ?_) fun out ho' eo => ?_))
  · have := hdep b hb
    show X.A.units + 1 + 1 + _ < cLine
    omega
  · obtain ⟨cs, ec, p1⟩ := each_refs eo
    obtain ⟨e', he'⟩ := PyProof.Rows.sortedHeap_at (vs := acc'.toList) (out := out.toArray) hoL
    have hz2 : (cs.map V.ref).length ≤ sizeLine := by
      rw [List.length_map]
      have e1 := congrArg List.length ec
      rw [List.length_map] at e1
      omega
    refine wpAny_pure ⟨_, rfl, .ref h'.objs.size, upd H h'.objs.size (.lst (cs.map V.ref)), I1.laid (t' := tk) (fun b u e => ?_) (Nat.le_refl _)
      (show ObjOk X.prog X.w _ _ _ (.lst (cs.map V.ref)) from ⟨hz2, out, e', by rw [ec]; exact vals_refs cs, he'⟩), rfl, q _ _ (I1.hok.fresh (Nat.le_refl _)) p1⟩
    have hb : b < h'.objs.size := Heap.lt_size e
    rw [PyProof.Rows.sortedHeap_old (Nat.ne_of_lt hb) (by rw [size_push']; exact Nat.lt_succ_of_lt hb)]
    exact Heap.get?_push_of_some _ e
end
end Rg
namespace Rg
open PySem PySem.Spec PyProof.Rows L2 PySem.W
/-! enumerate(tuple) -/
theorem meets_enumTup (a : Addr) (items : Array Value) :
    Meets (Builtin.«enumerate.__new__» ⟨[.type "enumerate", .ref a], []⟩) (fun _ R s => s.heap.IsTuple a items ∧
      R (.ok (.ret (.ref (s.heap.push { cls := .type "tuple_iterator", data := .fields #[.ref a, .int 0 0] }).objs.size)))
        { s with heap := (s.heap.push { cls := .type "tuple_iterator", data := .fields #[.ref a, .int 0 0] }).push { cls := .type "enumerate", data := .fields #[.none, .bool false, .ref s.heap.objs.size, rawInt 0, .none, .none] } }) :=
  .of_wp fun prog w A R s h => by
    obtain ⟨hp, g, d, tk, os⟩ := s; obtain ⟨h1, h⟩ := h
    have hsub := sub_enumerate
    have q1 : ∀ {A' : Around} {E : Value → Shared → Prop} {Q : Value → Shared → Prop}, Q (.ref hp.objs.size) ⟨hp.push { cls := .type "tuple_iterator", data := .fields #[.ref a, .int 0 0] }, g, d, tk, os⟩ → wpAny (model prog w) A' (pyIter (.ref a)) Q E ⟨hp, g, d, tk, os⟩ :=
      fun q => (begins_tuple a items).iter prog w _ _ ⟨hp, g, d, tk, os⟩ _ h1 q
    wp_walk using q1
    refine wpAny_stack_any fun st => wpAny_pure ?_
    split
    · rename_i c _ _ _ _ _
      cases (c == Value.type "enumerate")
      · wp_walk using q1
        exact ⟨_, rfl, h⟩
      · wp_walk using q1
        exact ⟨_, rfl, h⟩
    · wp_walk using q1
      exact ⟨_, rfl, h⟩
section
variable {prog : Program} {w : World} {A : Around} {E : Value → Shared → Prop} {s : Shared}
theorem call_enumTup {a : Addr} {items : Array Value} {Q : Value → Shared → Prop} (hL : s.heap.IsTuple a items)
    (h : ∀ h', IsEnum h' (s.heap.objs.size + 1) s.heap.objs.size 0 .none → h'.IsTupleIter s.heap.objs.size a 0 → (∀ b o, s.heap.get? b = some o → h'.get? b = some o) → Q (.ref (s.heap.objs.size + 1)) { s with heap := h' }) :
    wpAny (model prog w) A (call (.type "enumerate") [.ref a]) Q E s := by
  refine callType_new F.called_enumerate (by decide) (F.typeCall_enumerate_1 _) (F.newCall_enumerate_1 _) (fun obj => F.args_object_init_2 obj _) F.entry_enumerate_new
    (meets_enumTup a items) ⟨hL, ?_⟩
  have hz : (s.heap.push { cls := .type "tuple_iterator", data := .fields #[.ref a, .int 0 0] }).objs.size = s.heap.objs.size + 1 := Heap.size_push ..
  show _ ∧ _
  rw [hz]
  have he : IsEnum ((s.heap.push { cls := .type "tuple_iterator", data := .fields #[.ref a, .int 0 0] }).push { cls := .type "enumerate", data := .fields #[.none, .bool false, .ref s.heap.objs.size, rawInt 0, .none, .none] }) (s.heap.objs.size + 1) s.heap.objs.size 0 .none := by
    have := Heap.get?_push_size (s.heap.push { cls := .type "tuple_iterator", data := .fields #[.ref a, .int 0 0] }) (o := { cls := .type "enumerate", data := .fields #[.none, .bool false, .ref s.heap.objs.size, rawInt 0, .none, .none] }) rfl
    rw [hz] at this; exact this
  refine ⟨⟨_, he, rfl⟩, h _ he ⟨_, Heap.get?_push_of_some _ (Heap.get?_push_size _ rfl), rfl, rfl⟩ fun b o x => Heap.get?_push_of_some _ (Heap.get?_push_of_some _ x)⟩
end
/-- the tuple at a, each item in a new pair -/
def IteT (K : PySem.W.Frag) (a : Addr) : It :=
  ⟨fun i H => ∃ (xs : List V) (x : V), SqT K H a xs ∧ xs[i]? = some x, fun i H v H' => ∃ T x, v = .ref T ∧ H T = none ∧ H' = upd H T (.tup [.int (i : Nat), x]) ∧ ∀ xs, SqT K H a xs → xs[i]? = some x, fun i H => ∃ xs : List V, SqT K H a xs ∧ xs.length = i⟩
theorem turn_enumT {P : Program} {w : World} {K : PySem.W.Frag} {elts : List Expr} {kk : Nat} {tpos : Pos} (a e it : Addr) :
    Turn P w K (.Tuple elts kk tpos) (IteT K a) [e, it] e (fun i h => (∃ old, IsEnum h e it ((i : Nat) : Int) old) ∧ h.IsTupleIter it a i ∧ e ≠ it ∧ e ≠ a ∧ it ≠ a) where
  mem := by simp
  obj := fun i h st b hb => by
    obtain ⟨⟨old, he⟩, ⟨o, ho, hc, hd⟩, _⟩ := st
    have e' : b = e ∨ b = it := by simpa using hb
    rcases e' with z | z
    · rw [z]; exact ⟨_, he, fun v q => nomatch q⟩
    · rw [z]; exact ⟨o, ho, fun v q => by rw [hd] at q; cases q⟩
  keep := fun i h h' st k => let ⟨⟨old, he⟩, hi, hne⟩ := st; ⟨⟨old, k e (by simp) _ he⟩, hi.at fun o q => k it (by simp) o q, hne⟩
  item := by
    intro X hP hw hK hc i pins s σ H E I hf st hg
    subst hP hw hK
    obtain ⟨⟨old, he⟩, hit, hne, hea, hia⟩ := st
    obtain ⟨xs, x, hq, hx⟩ := hg
    obtain ⟨its, rv, p, hz⟩ := I.tuple hq
    obtain ⟨u, hu, ru⟩ := rv.get hx
    have hel : e < s.heap.objs.size := Heap.lt_size he
    have hil : it < s.heap.objs.size := by obtain ⟨_, q, _⟩ := hit; exact Heap.lt_size q
    have hi : i < its.toArray.size := by rw [List.size_toArray]; exact (List.getElem?_eq_some_iff.mp hu).1
    refine wpAny_pyNext_enum_itemC (Draws.tuple (prog := X.prog) (w := X.w) (A := X.A.in1) (I.ok.hd hc) it a (Ne.symm hia) its.toArray) he ⟨hit, p⟩ hi hne (by simp [hne, hea]) fun x' h' tk hx' ho hst' hT hsz hk => ?_
    have ex : x' = u := by
      have : its.toArray[i]? = some u := by simpa using hu
      rw [this] at hx'
      exact (Option.some.inj hx').symm
    subst ex
    obtain ⟨hit', hp'⟩ := hst'
    refine ⟨_, rfl, wpAny_letOwnedTupleGo_enum (s := { s with heap := h', toks := tk + 1 }) ho fun h'' he' sb => ?_⟩
    have hT2 : h''.get? s.heap.objs.size = some { cls := .type "tuple", data := .seq #[.int i tk, x'] } := (sb.2 _ (Nat.ne_of_gt hel)).trans hT
    have new : ObjOk X.prog X.w (upd H s.heap.objs.size (.tup [.int (i : Nat), x])) h'' s.heap.objs.size (.tup [.int (i : Nat), x]) :=
      ⟨by show 2 ≤ sizeLine; decide, [.int i tk, x'], .cons ⟨_, rfl⟩ (.cons ru .nil), ⟨_, hT2, rfl, _, rfl⟩⟩
    have I1 : L2.Inv X pins σ (upd H s.heap.objs.size (.tup [.int (i : Nat), x])) { s with heap := h'', toks := tk + 1 } :=
      I.turnedNew (ch := [e, it]) (fun b ob hb q => (sb.2 b (fun z => hb (by simp [z]))).trans (hk b ob (fun z => hb (by simp [z])) (fun z => hb (by simp [z])) q)) hf (Nat.le_refl _) new
    refine ⟨.ref s.heap.objs.size, _, I1, rfl, ⟨_, x, rfl, I.hok.fresh (Nat.le_refl _), rfl, fun ys hy => by rw [I.tuple_inj hy hq]; exact hx⟩, ⟨⟨x', ?_⟩, hit'.at fun o q => (sb.2 it (Ne.symm hne)).trans q, hne, hea, hia⟩, fun b hb => ?_⟩
    · have e1 : ((i + 1 : Nat) : Int) = (i : Int) + 1 := by omega
      rw [e1]; exact he'
    · have hb' : b < s.heap.objs.size := by
        have e' : b = e ∨ b = it := by simpa using hb
        rcases e' with z | z
        · rw [z]; exact hel
        · rw [z]; exact hil
      rw [upd_ne (Nat.ne_of_lt hb')]
      exact (hf b hb).1
  done := by
    intro X hP hw hK hc i pins s σ H E I hf st hg
    subst hP hw hK
    obtain ⟨⟨old, he⟩, hit, hne, hea, hia⟩ := st
    obtain ⟨xs, hq, hx⟩ := hg
    obtain ⟨its, rv, p, hz⟩ := I.tuple hq
    obtain ⟨f0, f1, f2, f3, f4, f5⟩ := hf it (by simp)
    have hl := rv.length
    have ei : its.toArray.size = i := by rw [List.size_toArray]; omega
    subst ei
    exact wpAny_pyNext_enum_endD (Draws.tuple (prog := X.prog) (w := X.w) (A := X.A.in1) (I.ok.hd hc) it a (Ne.symm hia) its.toArray) he ⟨hit, p⟩ fun h' eb => ⟨rfl, I.turned (t' := s.toks) (fun b o hb q => eb b o hb q) f0 f1 f3 f4 f5⟩
  self := fun A i s Q E st h => let ⟨⟨_, he⟩, _⟩ := st; wpAny_pyIter_enum he h
def iEnumT (K : PySem.W.Frag) (ta : TA) : TI := fun σ H R => ta σ H fun vs H1 => ∃ a xs, vs = [.ref a] ∧ SqT K H1 a xs ∧ R (IteT K a) H1
theorem pi_enumT {X : Cx} {e : Expr} {ta : TA} {p pos tpos : Pos} {elts : List Expr} {kk : Nat} (hg : Gl X "enumerate") (hm : X.mg "enumerate" = none) (ha : PA X [e] ta) (hs : starEach [e] X.env = [(false, eval e X.env)] := by rfl) :
    PI X (.Tuple elts kk tpos) (.Call (.Name "enumerate" p) [e] [] pos) (iEnumT X.K ta) := by
  refine ⟨fun pins s σ H R I h => ?_⟩
  refine Call_ (ld_blt I hg hm boot_enumerate (PyProof.Rows.callWith_type1 (thn (ha.run pos pins s σ H _ I h) fun us s1 ⟨vs, H1, I1, r1, q1⟩ => ?_) hs rfl))
  obtain ⟨a, xs, ex, hq, q⟩ := q1
  subst ex
  cases r1 with
  | cons r rr =>
    cases rr
    cases r
    obtain ⟨its, rv, p', hz⟩ := I1.tuple hq
    have hal : a < s1.heap.objs.size := p'.lt
    refine call_enumTup p' fun h' he hit hk => wpAny_pyIter_enum he ?_
    have I2 : L2.Inv X pins σ H1 { s1 with heap := h' } := I1.kept (t' := s1.toks) hk
    refine ⟨s1.heap.objs.size + 1, [s1.heap.objs.size + 1, s1.heap.objs.size], _, _, H1, rfl, I2, turn_enumT a (s1.heap.objs.size + 1) s1.heap.objs.size, ⟨⟨.none, he⟩, hit, Nat.succ_ne_self _, Nat.ne_of_gt (Nat.lt_succ_of_lt hal), Nat.ne_of_gt hal⟩, fun b hb => ?_, q⟩
    have e' : b = s1.heap.objs.size + 1 ∨ b = s1.heap.objs.size := by simpa using hb
    have hle : s1.heap.objs.size ≤ b := by
      rcases e' with z | z
      · rw [z]; exact Nat.le_add_right _ _
      · rw [z]; exact Nat.le_refl _
    exact I1.fpOk hle (I1.hok.fresh hle)
theorem walk_enumT {K : PySem.W.Frag} {a : Addr} {xs : List V} : Walk (IteT K a) xs.length (fun H => SqT K H a xs) (YPair (fun i => some (.int (i : Nat))) (fun i => xs[i]?)) := by
  refine ⟨fun i _ hi q => ⟨xs, xs[i], q, by simp [hi]⟩, fun _ q => ⟨xs, q, rfl⟩, fun i H v H' _ q y => ?_⟩
  obtain ⟨T, x, h1, h2, h3, h4⟩ := y
  exact ⟨T, .int (i : Nat), x, h1, h2, h3, rfl, h4 xs q⟩
end Rg
namespace Rg
open PySem PySem.Spec PyProof.Rows L2 PySem.W RT
/-! list(reversed(tuple)) -/
theorem nolen_rt : typeLookup (.type "reversed") "__len__" = pure none := by rw [typeLookup_type, builtinLookup_eq_fast]; kernel_rfl
theorem slot_rt_hint : Slot "reversed" "__length_hint__" "reversed.__length_hint__" :=
  .of (owner := "reversed") (n := "__length_hint__") (by rw [typeLookup_type, builtinLookup_eq_fast]; kernel_rfl) (by decide +kernel) (by decide +kernel) (by decide +kernel)
    (by first | exact .inl (by decide +kernel) | exact .inr (by decide +kernel)) (by rw [isSubtype_type]; kernel_rfl)
theorem args_rt_hint (a : Value) : argsOk "reversed.__length_hint__" ⟨[a], []⟩ := by
  unfold argsOk; rw [signature?_of (id := "reversed.__length_hint__") (n := ['_', '_', 't', 'n', 'i', 'h', '_', 'h', 't', 'g', 'n', 'e', 'l', '_', '_']) (o := ['d', 'e', 's', 'r', 'e', 'v', 'e', 'r']) (by kernel_rfl) owner_rt]; kernel_rfl
theorem entry_rt_hint : entryFor table "reversed.__length_hint__" = some Builtin.«reversed.__length_hint__» := entryFor_of_tree (by kernel_rfl)
section
variable {prog : Program} {w : World} {A : Around} {E : Value → Shared → Prop} {s : Shared}
theorem hint_rt {it t : Addr} {items : Array Value} {Q : Bool → Shared → Prop} (hit : IsRt s.heap it t ((items.size : Int) - 1)) (ht : IsTup s.heap t items) (hsz : items.size ≤ sizeLine)
    (h : ∀ tk, Q ((items.size : Int) != 0) { s with toks := tk }) : wpAny (model prog w) A (Builtin.List.listLengthHint (.ref it)) Q E s := by
  obtain ⟨o, ho, hc, hd⟩ := id hit
  have hT : s.TypeIs (.ref it) "reversed" := hit.typeIs
  have hl := line63
  unfold Builtin.List.listLengthHint
  refine wpAny_bind (wpAny_specialOf hT nolen_rt ?_)
  show wpAny _ A (specialOf (Value.ref it) (Str.ofString "__length_hint__") >>= _) _ _ _
  refine wpAny_bind (wpAny_specialOf hT slot_rt_hint.lookup ?_)
  generalize hid : ("reversed.__length_hint__" : String) = id0
  wp_delta
  rw [show splitId id0 = some ("reversed", "__length_hint__") from by subst hid; decide +kernel]
  refine wpAny_bind (wpAny_isInstance (b := true) hT (by rw [isSubtype_type]; kernel_rfl) ?_)
  rw [if_neg (by decide)]
  rw [show bindSpecial (Value.builtin id0) (Value.ref it) = pure (.builtin id0, [.ref it]) from by subst hid; exact slot_rt_hint.bind _]
  subst hid
  refine wpAny_ite_split (fun hab => absurd hab (by decide +kernel)) (fun _ => ?_)
  refine wpAny_bind (wpAny_rule (wpAny_bind (wpAny_pure ?_)))
  refine wpAny_bind (wpAny_attempt (wpAny_call_entry slot_rt_hint hT entry_rt_hint ?_ (args_rt_hint _)))
  unfold Builtin.«reversed.__length_hint__»
  refine wpAny_bind (wpAny_of_eq (a := Value.ref it) rfl ?_)
  refine wpAny_bind (wpAny_field ho hd (x := .ref t) rfl ?_)
  rw [if_neg (by simp)]
  wp_walk using len_tuple (items := items) ht (by omega)
  rw [hd]
  wp_walk
  have e1 : ((items.size : Int) - 1) + 1 = items.size := by omega
  rw [e1]
  have h2 : Builtin.List.listFitsIndex ((items.size : Nat) : Int) = true := fitsIndex_of (by omega) (by omega)
  have h3 : ¬ ((items.size : Nat) : Int) < 0 := by omega
  have h4 : Builtin.List.listTooLong ((items.size : Nat) : Int).toNat = false := notLongL (by simpa using hsz)
  have h2' : (!Builtin.List.listFitsIndex ((items.size : Nat) : Int)) = false := by rw [h2]; rfl
  clear h2 hit hd ht hsz e1
  generalize ((items.size : Nat) : Int) = k at h h2' h3 h4 ⊢
  refine ⟨_, rfl, ?_⟩
  show wpAny _ _ (asInt? (Value.int k _) >>= _) _ _ _
  refine wpAny_bind ?_
  show wpAny _ _ (pure (some k)) _ _ _
  refine wpAny_pure ?_
  refine wpAny_ite_split (fun hab => absurd hab (by rw [h2']; decide)) (fun _ => ?_)
  refine wpAny_ite_split (fun hab => absurd hab h3) (fun _ => ?_)
  refine wpAny_ite_split (fun hab => absurd hab (by rw [h4]; decide)) (fun _ => ?_)
  exact wpAny_pure (h _)
/-- list(reversed(t)) of a tuple, the iterator at it -/
theorem walks_rt (hh : A.handled = none) (it t : Addr) (hne : t ≠ it) (items : Array Value) (hsz : items.size ≤ sizeLine) :
    Walks prog w A it [it, t] [it] items.size (fun i v => items[items.size - 1 - i]? = some v) (fun i h => i ≤ items.size ∧ IsRt h it t ((items.size : Int) - 1 - (i : Nat)) ∧ IsTup h t items) where
  sub := fun b hb => by rw [List.mem_singleton.mp hb]; exact List.mem_cons_self ..
  frame := fun i h h' st hk => ⟨st.1, st.2.1.at fun o e => hk it (by simp) o e, Heap.IsTuple.at st.2.2 fun o e => hk t (by simp) o e⟩
  item := fun i s Q E hi st hQ => by
    obtain ⟨_, h1, h2⟩ := st
    have e : (items.size : Int) - 1 - (i : Nat) = ((items.size - 1 - i : Nat) : Int) := by omega
    rw [e] at h1
    have hj : items.size - 1 - i < items.size := by omega
    refine next_rt_item h1 h2 (x := items[items.size - 1 - i]) (by simp [hj]) hsz fun h' h1' sb => ?_
    refine hQ _ h' _ (by simp [hj]) ⟨by omega, ?_, h2.extBut sb.extBut hne⟩ fun b o hb e => sb.extBut b o (by simpa using hb) e
    have e2 : ((items.size - 1 - i : Nat) : Int) - 1 = (items.size : Int) - 1 - ((i + 1 : Nat) : Int) := by omega
    rw [← e2]
    exact h1'
  done := fun s Q E st hQ => by
    obtain ⟨_, h1, h2⟩ := st
    have e : (items.size : Int) - 1 - ((items.size : Nat) : Int) = -1 := by omega
    rw [e] at h1
    exact next_rt_end hh h1 fun h' hx => hQ h' s.toks fun b o hb e => hx b o (by simpa using hb) e
  self := fun i s Q E st hQ => iter_rt st.2.1 hQ
theorem ext_rt {R : Result → Shared → Prop} {it t : Addr} {items : Array Value} (hh : A.handled = none) (hit : IsRt s.heap it t ((items.size : Int) - 1)) (ht : IsTup s.heap t items) (hne : t ≠ it) (hn : items.size ≤ sizeLine)
    (S : Addr) (hSi : S ≠ it) (hSt : S ≠ t) (res : Value) (c₀ : Nat) (hS : s.heap.get? S = some { cls := .type "list", data := .seq #[] c₀ })
    (hR : ∀ h' tk acc' c', (∀ b o, b ≠ S → b ≠ it → s.heap.get? b = some o → h'.get? b = some o) → h'.get? S = some { cls := .type "list", dict := none, data := .seq acc' c', slots := #[] } → ItemsOf (fun i v => items[items.size - 1 - i]? = some v) acc' items.size → R (.ok (.ret res)) { s with heap := h', toks := tk }) :
    wpAny (model prog w) A.in1 (Builtin.List.listExtendWith (.ref S) (.ref it) res)
      (fun fin s' => match fin with | .done f => R (.ok f) s' | .again c' => c'.quiet = true ∧ codeAny (model prog w) A c' R s') (fun e s' => R (.error e) s') s := by
  have hSf : S ∉ [it, t] := by simp only [List.mem_cons, List.not_mem_nil, or_false, not_or]; exact ⟨hSi, hSt⟩
  have W := walks_rt (prog := prog) (w := w) (A := A.in1) hh it t hne items hn
  have key : ∀ (h : Heap) (c₁ tk : Nat), (0 ≤ items.size ∧ IsRt h it t ((items.size : Int) - 1 - ((0 : Nat) : Int)) ∧ IsTup h t items) → (∀ b o, b ≠ S → s.heap.get? b = some o → h.get? b = some o) →
      h.get? S = some { cls := .type "list", data := .seq #[] c₁ } → codeAny (model prog w) A (.builtin "list.extend.loop" ⟨[.ref S, .ref it, res], []⟩) R { s with heap := h, toks := tk } := by
    intro h c₁ tk hst hk hS₁
    refine codeAny_extend_loopS W.toS hn S hSf res items.size 0 _ #[] c₁ rfl (Nat.zero_le _) hst hS₁ (ItemsOf.nil _) fun s' acc' c' hm hS' hacc => ?_
    rw [Moved.eq_with hm]
    refine hR s'.heap s'.toks acc' c' (fun b o hb hbi e => hm.heap b o (fun hmem => ?_) (hk b o hb e)) hS' hacc
    rcases List.mem_cons.mp hmem with e' | hmem
    · exact hb e'
    · exact hbi (List.mem_singleton.mp hmem)
  have e0 : ((items.size : Nat) : Int) - 1 - ((0 : Nat) : Int) = (items.size : Int) - 1 := by omega
  unfold Builtin.List.listExtendWith
  refine wpAny_bind (wpAny_typeOf (T := "reversed") hit.typeIs ?_)
  have h1 : Builtin.List.listSameRef (.ref S) (.ref it) = false := by simp [Builtin.List.listSameRef, hSi]
  rw [if_neg (by rw [h1]; decide)]
  refine wpAny_bind (iter_rt hit ?_)
  refine wpAny_bind (wpAny_holding (hint_rt hit ht hn fun tk => ?_))
  refine wpAny_ite_split (fun _ => ?_) (fun _ => wpAny_pure ⟨plainId_quiet F.plain_extend_loop _, key _ c₀ _ ⟨Nat.zero_le _, by rw [e0]; exact hit, ht⟩ (fun b o _ e => e) hS⟩)
  refine wpAny_bind (wpAny_rule ?_)
  refine wpAny_bind ?_
  show wpAny _ _ (updateSeq S (·.push .none) >>= fun _ => updateSeq S (·.pop)) _ _ _
  refine wpAny_bind (wpAny_updateSeq hS rfl ?_)
  have hS₂ := Heap.get?_update_self (Obj.mapSeq (·.push Value.none)) hS rfl
  refine wpAny_updateSeq (hz := by seq_fits) hS₂ rfl ?_
  have hS₃ := Heap.get?_update_self (Obj.mapSeq (·.pop)) hS₂ rfl
  have old : ∀ b o, b ≠ S → s.heap.get? b = some o → (((s.heap.update S (Obj.mapSeq (·.push Value.none))).update S (Obj.mapSeq (·.pop))).get? b = some o) := fun b o hb e =>
    (Heap.get?_update_other _ _ (Ne.symm hb)).trans ((Heap.get?_update_other _ _ (Ne.symm hb)).trans e)
  exact wpAny_pure ⟨plainId_quiet F.plain_extend_loop _, key _ _ _ ⟨Nat.zero_le _, by rw [e0]; exact hit.at fun o e => old it o (Ne.symm hSi) e, Heap.IsTuple.at ht fun o e => old t o (Ne.symm hSt) e⟩ old hS₃⟩
theorem call_list_rt {it t : Addr} {items : Array Value} {Q : Value → Shared → Prop} (hh : A.handled = none) (hit : IsRt s.heap it t ((items.size : Int) - 1)) (ht : IsTup s.heap t items) (hne : t ≠ it) (hn : items.size ≤ sizeLine)
    (hQ : ∀ h' tk acc' c', (∀ b o, b ≠ it → s.heap.get? b = some o → h'.get? b = some o) → h'.get? s.heap.objs.size = some { cls := .type "list", dict := none, data := .seq acc' c', slots := #[] } → ItemsOf (fun i v => items[items.size - 1 - i]? = some v) acc' items.size → Q (.ref s.heap.objs.size) { s with heap := h', toks := tk }) :
    wpAny (model prog w) A (call (.type "list") [.ref it]) Q E s := by
  refine callType_codes (Q₁ := fun obj s₁ => obj = .ref s.heap.objs.size ∧ s₁ = { s with heap := s.heap.push { cls := .type "list", data := .seq #[] } }) PySem.F.called_list (PySem.F.typeCall_list_1 _) PySem.F.entry_list_init
    (code_list_new _ ⟨rfl, rfl⟩) fun obj s₁ h₁ => ?_
  obtain ⟨rfl, rfl⟩ := h₁
  have hS : (s.heap.push { cls := .type "list", data := .seq #[] }).get? s.heap.objs.size = some { cls := .type "list", data := .seq #[] } := Heap.get?_push_size _ rfl
  have li : it < s.heap.objs.size := let ⟨_, q, _⟩ := hit; Heap.lt_size q
  have lt : t < s.heap.objs.size := let ⟨_, q, _⟩ := ht; Heap.lt_size q
  refine ⟨⟨_, hS, rfl⟩, PySem.F.args_list_init_2 _ _, ?_⟩
  show wpAny _ _ (do let old ← Builtin.List.listItems (.ref s.heap.objs.size); Builtin.List.listUpdate (.ref s.heap.objs.size) (fun _ => #[]); letGo old.toList.reverse; Builtin.List.listExtendWith (.ref s.heap.objs.size) (.ref it) .none) _ _ _
  refine wpAny_bind ?_
  unfold Builtin.List.listItems
  refine wpAny_bind (wpAny_seqItems hS rfl (wpAny_pure ?_))
  show wpAny _ _ (updateSeq s.heap.objs.size (fun _ => #[]) >>= fun _ => letGo (#[] : Array Value).toList.reverse >>= fun _ => Builtin.List.listExtendWith (.ref s.heap.objs.size) (.ref it) .none) _ _ _
  refine wpAny_bind (wpAny_updateSeq hS rfl ?_)
  have hS₂ := Heap.get?_update_self (Obj.mapSeq (fun _ => (#[] : Array Value))) hS rfl
  have oth : ∀ b o, s.heap.get? b = some o → ((s.heap.push { cls := .type "list", data := .seq #[] }).update s.heap.objs.size (Obj.mapSeq (fun _ => (#[] : Array Value)))).get? b = some o :=
    fun b o e => (Heap.get?_update_other _ _ (Ne.symm (Nat.ne_of_lt (Heap.lt_size e)))).trans (Heap.get?_push_of_some _ e)
  refine wpAny_bind (wpAny_letGo ?_)
  refine ext_rt (A := A.in1) hh (hit.at fun o e => oth it o e) (Heap.IsTuple.at ht fun o e => oth t o e) hne hn s.heap.objs.size (Nat.ne_of_gt li) (Nat.ne_of_gt lt) .none _ hS₂ fun h' tk acc' c' hk hS' hacc => ?_
  exact ⟨rfl, hQ h' tk acc' c' (fun b o hb e => hk b o (Nat.ne_of_lt (Heap.lt_size e)) hb (oth b o e)) hS' hacc⟩
end
section
variable {X : Cx}
def tLstRev (K : PySem.W.Frag) (te : TE) : TE := fun σ H Q => te σ H fun v H1 => ∃ (a : Addr) (xs : List V), v = .ref a ∧ SqT K H1 a xs ∧ ∀ q, H1 q = none → Q (.ref q) (upd H1 q (.lst xs.reverse))
theorem pe_lstRevT {e : Expr} {te : TE} {p p2 pos pos2 : Pos} (hc : X.calm = true) (hg : Gl X "list") (hm : X.mg "list" = none) (hg2 : Gl X "reversed") (hm2 : X.mg "reversed" = none) (he : PE X e te)
    (hs : starEach [e] X.env = (false, eval e X.env) :: starEach [] X.env := by rfl)
    (hs2 : starEach [.Call (.Name "reversed" p2) [e] [] pos2] X.env = (false, eval (.Call (.Name "reversed" p2) [e] [] pos2) X.env) :: starEach [] X.env := by rfl) :
    PE X (.Call (.Name "list" p) [.Call (.Name "reversed" p2) [e] [] pos2] [] pos) (tLstRev X.K te) := by
  refine ⟨fun pins s σ H Q I h => ?_⟩
  refine Call_ (ld_blt I hg hm boot_list (PyProof.Rows.callWith_type1 (args_cons (Call_ (ld_blt I hg2 hm2 PyProof.Rows.boot_reversed (PyProof.Rows.callWith_type1 (args_cons (thn (he.run pins s σ H _ I h) fun u s1 ⟨v, H1, I1, r1, q1⟩ => args_nil ?_) hs) hs rfl))) hs2) hs2 rfl))
  obtain ⟨a, xs, ev, hq, q⟩ := q1
  subst ev
  obtain rfl : u = Value.ref a := r1
  obtain ⟨its, rv, p', hz⟩ := I1.tuple hq
  have hl := rv.length
  have hn := line63
  have hsz : its.toArray.size ≤ sizeLine := by rw [List.size_toArray]; omega
  have hal : a < s1.heap.objs.size := p'.lt
  refine call_reversed_tup p' (fun A E Q k => len_tuple p' (by simp only [List.size_toArray] <;> omega) k) (args_nil ?_)
  have k0 : ∀ b o, s1.heap.get? b = some o → (s1.heap.push (rtObj a ((its.toArray.size : Int) - 1))).get? b = some o := fun b o e => Heap.get?_push_of_some _ e
  have I2 : L2.Inv X pins σ H1 { s1 with heap := s1.heap.push (rtObj a ((its.toArray.size : Int) - 1)), toks := s1.toks + 1 + 1 } := I1.kept (t' := s1.toks + 1 + 1) k0
  obtain ⟨f0, f1, f2, f3, f4, f5⟩ := I1.fpOk (H' := H1) (b := s1.heap.objs.size) (Nat.le_refl _) (I1.hok.fresh (Nat.le_refl _))
  have hne : a ≠ s1.heap.objs.size := Nat.ne_of_lt hal
  refine call_list_rt (s := { s1 with heap := s1.heap.push (rtObj a ((its.toArray.size : Int) - 1)), toks := s1.toks + 1 + 1 }) (I1.ok.hd hc) ⟨_, Heap.get?_push_size _ rfl, rfl, rfl⟩ (p'.keeps k0) hne hsz fun h' tk acc c' hk hD hi => ?_
  have hz1 : (s1.heap.push (rtObj a ((its.toArray.size : Int) - 1))).objs.size = s1.heap.objs.size + 1 := Heap.size_push ..
  have hf : H1 (s1.heap.push (rtObj a ((its.toArray.size : Int) - 1))).objs.size = none := I2.hok.fresh (Nat.le_refl _)
  have I3 := I2.turnedNew (t' := tk) (h' := h') (ch := [s1.heap.objs.size]) (T := (s1.heap.push (rtObj a ((its.toArray.size : Int) - 1))).objs.size) (ob := .lst xs.reverse)
    (fun b o hb e => hk b o (by simpa using hb) e) (fun b hb => by rw [List.mem_singleton.mp hb]; exact ⟨f0, f1, f2, f3, f4, f5⟩) (Nat.le_refl _)
    ⟨by rw [List.length_reverse]; exact hz, acc.toList, c', vals_rev rv hi, by rw [Array.toArray_toList]; exact hD⟩
  exact ⟨.ref _, _, I3, rfl, q _ hf⟩
end
end Rg
namespace Rg
open PySem PySem.Spec PyProof.Rows L2
section
variable {X : Cx}
/-- divmod of ints of any size by a positive one -/
def rDivP : List V → Hp → VK → Prop := fun xs H Q => ∃ i j : Int, xs = [.int i, .int j] ∧ 0 < j ∧ ∀ p, H p = none → Q (.ref p) (upd H p (.tup [.int (i / j), .int (i % j)]))
theorem call_divP {l : List Env} (hN : X.base.NoSeer) (ht : X.prog.given.tree = none) (hst : X.stack = X.env :: l) (hgen : X.env.scope.isGenerator = false) (hco : X.env.scope.isCoroutine = false)
    (hd : X.A.depth + Builtin.pylongFrames < recursionLimit) : CallR X (.builtin "divmod") rDivP := by
  intro pins s σ H xs us Q I r h
  obtain ⟨i, j, rfl, hj, q⟩ := h
  obtain ⟨u, w', rfl, ⟨t, rfl⟩, ⟨t', rfl⟩⟩ := vals2 r
  have room : PylongRoom (model X.prog X.w) X.A s := by
    refine PylongRoom.of I.nolimit hd ?_
    exact SeerAt.of (hN.keeps I.bk) ht (by rw [I.ok.frames, hst]) hgen hco I.ok.blt I.ok.glob
  refine divmod_int (by omega) ?_ (.inr room)
  have free := I.hok.fresh (Nat.le_refl s.heap.objs.size)
  rw [Int.fdiv_eq_ediv_of_nonneg i (by omega), Int.fmod_eq_emod_of_nonneg i (by omega)]
  refine ⟨.ref s.heap.objs.size, _, ?_, rfl, q _ free⟩
  refine I.laid (t' := s.toks + 1 + 1) (fun b o e => Heap.get?_push_of_some _ e) (Nat.le_refl _) ⟨?_, [.int (i / j) s.toks, .int (i % j) (s.toks + 1)], .cons ⟨_, rfl⟩ (.cons ⟨_, rfl⟩ .nil), _, Heap.get?_push_size s.heap rfl, rfl, 0, rfl⟩
  show 2 ≤ sizeLine
  rw [sizeLine_eq]; decide
end

/-! the law's call, where the base bears no seer -/
section
variable {P : Program} {w : World} {K : PySem.W.Frag} {mg mb : Str → Option Value} {k : Nat} {fa a : Addr} {fd : FuncData} {x : Str} {sp : Sp} {s : Shared} {vs : List Value} {ns : List Int}
/-- what the law's heap shows once the script is hidden -/
structure BaseOf (K : PySem.W.Frag) (mg : Str → Option Value) (h : Heap) (H : Hp) : Prop where
  kin : K.In (hidT h H)
  ns : ∀ b m, h.Ns b m → (hidT h H).Ns b m
  cls : ∀ b o c, h.get? b = some o → o.cls = .type c → c ≠ "list" → (hidT h H).get? b = some o
theorem baseOf_none {h : Heap} {H : Hp} (hH : ∀ b, H b = none) (kx : K.In h) : BaseOf K mg h H where
  kin := fun b o e => hidT_get (kx b o e) (hH b)
  ns := fun b m ⟨o, es, ep, e, d, r⟩ => ⟨o, es, ep, hidT_get e (hH b), d, r⟩
  cls := fun b o c e _ _ => hidT_get e (hH b)
theorem baseOf_one {h : Heap} {H : Hp} {items : Array Value} (hH : ∀ b, b ≠ a → H b = none) (ha : h.get? a = some { cls := .type "list", data := .seq items }) (hk : K.lookup a = none) (kx : K.In h) : BaseOf K mg h H where
  kin := fun b o e => hidT_get (kx b o e) (hH b fun z => by subst z; rw [hk] at e; cases e)
  ns := fun b m ⟨o, es, ep, e, d, r⟩ => ⟨o, es, ep, hidT_get e (hH b fun z => by subst z; rw [ha] at e; cases e; cases d), d, r⟩
  cls := fun b o c e hc hne => hidT_get e (hH b fun z => by
    subst z
    rw [ha] at e
    cases e
    injection hc with hc
    exact hne hc.symm)
theorem BaseOf.seer {h : Heap} {H : Hp} (B : BaseOf K mg h H) (S : h.NoSeer) : (hidT h H).NoSeer where
  statics := S.statics.elim fun m z => ⟨m, B.ns _ _ z.1, z.2⟩
  mods := S.mods.elim fun m z => ⟨m, B.ns _ _ z.1, z.2⟩
  imp := S.imp.elim fun m z => ⟨m, B.ns _ _ z.1, z.2⟩
  main := by
    obtain ⟨m, bm, ob, z1, z2, z3, z4, z5⟩ := S.main
    exact ⟨m, bm, ob, B.ns _ _ z1, z2, B.cls _ _ _ z3 z4 (by decide), z4, z5⟩
theorem law_run {H : Hp} (B : BaseOf K mg s.heap H) (gl : s.heap.Ns mainGlobals mg) (bl : s.heap.Ns builtinsNs mb) (bb : ∀ y : Str, y ≠ "__name__" → mb y = bootBuiltins y) (lim : s.heap.NoLimit) (sr : s.heap.NoSeer) (gn : s.gens = #[]) (hr : Room k callerA)
    (hok : HOk P w H s.heap) (only : Only H)
    (F : ∀ base : Heap, K.In base → base.Ns mainGlobals mg → base.NoSeer → FnOk P w K mg base CX0 k fa fd [x] sp) (bind : ∀ (s : Shared) (u : Value), BindsTo s fd ⟨[u], []⟩ [(x, u)])
    (hsp : sp [.ref a] H (fun v _ => v = .bl true) fun _ _ _ => False) :
    codeAny (model P w) callerA (.call (.ref fa) ⟨[.ref a], []⟩) (fun r s' => r = .ok (.ret (.bool true)) ∧ OldK s.heap s'.heap ∧ s'.os = s.os ∧ AllBare s'.gens) s := by
  have M : Mod K mg (hidT s.heap H) := { kin := B.kin, glob := B.ns _ _ gl, blt := ⟨mb, B.ns _ _ bl, bb⟩, nolimit := lim.elim fun m z => ⟨m, B.ns _ _ z.1, z.2⟩ }
  have E0 : Env0 P w K mg (hidT s.heap H) callerA [] s H :=
    { frames := rfl, mod := M, bs := fun _ _ e => of_hidT e, bsz := Nat.le_of_eq (hidT_size _ _), funs := trivial, frf := (fun _ hb => absurd hb (List.not_mem_nil)), hok := hok, bare := .of_eq gn }
  have run := (F _ B.kin M.glob (B.seer sr)).run callerA [] s H ⟨[.ref a], []⟩ [.ref a] [.ref a] _ _ hr E0 (bind s (.ref a)) (.cons rfl .nil) hsp
  refine codeAny_mono run fun r s' h => ?_
  match r, h with
  | .ok (.ret u), ⟨v, H', os, bare, un, hok', rv, hv⟩ =>
    subst hv
    cases rv
    refine ⟨rfl, OldK.of_keep fun b o e => ?_, os, bare⟩
    rcases only b with z | ⟨ob, xs, z⟩
    · exact un.keep b o e z (fun hb => by cases hb) (fun hb => by cases hb)
    · have z1 := (hok b _ z).1
      have z2 := (hok' b _ (un.frzs b ob _ z)).1
      rw [e] at z1
      rw [z2, ← z1]
end
/-- k_head's goal, from the law's promise; the base bears no seer -/
theorem walk_seer {l : PySem.W.OpenLaw} {n k : Nat} {q : Program} {loose : List Str} {XP : (Str → Option Value) → Heap → Prop} {YP : World → Heap → Prop} {d : DefRec} {K : Params → PySem.W.Frag} {sp : PySem.W.Frag → Sp} {x : Str}
    (hn : l.most = some n) (hn2 : n ≤ sizeLine) (hdf : d.params.defaults = []) (hr : Room k callerA) (hq : importsNone q = true)
    (hY : ∀ (w : World) (h : Heap), YP w h → (K w.params).In h)
    (F : ∀ (w : World) (mg : Str → Option Value) (fa : Addr) (h : Heap), (K w.params).In h → h.Ns mainGlobals mg → mg d.name = some (.ref fa) →
      ∃ fd : FuncData, (∀ (s : Shared) (u : Value), BindsTo s fd ⟨[u], []⟩ [(x, u)]) ∧
        ∀ base : Heap, (K w.params).In base → base.Ns mainGlobals mg → base.NoSeer → FnOk l.prog w (K w.params) mg base CX0 k fa fd [x] (sp (K w.params)))
    (hsp : ∀ (K : PySem.W.Frag) (H : Hp) (a : Addr) (ns : List Int), ns.length ≤ n → SqL K H a (ns.map V.int) → sp K [.ref a] H (fun v _ => v = .bl true) fun _ _ _ => False) :
    PySem.W.WalkO q loose XP YP l.row.toRowW d [] (fun f vs => PySem.call f vs) := by
  refine Att.attach_call hn hdf fun w s₀ s₁ mg mb fa o pm cd doc a vs ns G Y ho hd hcd hmg hobj hints hlen hg => ?_
  have KX := hY w _ Y
  obtain ⟨fd, hb, hF⟩ := F w mg fa _ KX G.T.g hmg
  have rv := vals_ints hints
  have hz : ns.length ≤ sizeLine := Nat.le_trans hlen hn2
  have len := hints.length
  cases hk : (K w.params).lookup a with
  | some o' =>
    have e := KX a o' hk
    rw [hobj] at e
    cases e
    refine law_run (H := fun _ => none) (baseOf_none (fun _ => rfl) KX) G.T.g G.T.b G.T.builtins G.T.nolimit (G.T.seer hq) hg hr (fun b u z => by cases z) (fun _ => .inl rfl) hF hb (hsp _ _ _ ns hlen (.inr ⟨_, vs.toArray, _, hk, rfl, rfl, rfl, ?_, by simpa using rv⟩))
    rw [List.size_toArray, len]; exact hz
  | none =>
    have hH : ∀ b, b ≠ a → (fun b => if b = a then some (HO.frz { cls := .type "list", data := .seq vs.toArray } (.lst (ns.map V.int))) else none) b = none := fun b hb => if_neg hb
    refine law_run (baseOf_one hH hobj hk KX) G.T.g G.T.b G.T.builtins G.T.nolimit (G.T.seer hq) hg hr (fun b u z => ?_) (fun b => ?_) hF hb (hsp _ _ _ ns hlen (.inl (.inr ⟨_, if_pos rfl⟩)))
    · by_cases e : b = a
      · subst e
        have z' := (if_pos rfl).symm.trans z
        cases z'
        exact ⟨hobj, by rw [List.length_map]; exact hz, vs, _, rv, hobj⟩
      · have z' := (if_neg e).symm.trans z
        cases z'
    · by_cases e : b = a
      · exact .inr ⟨_, _, if_pos e⟩
      · exact .inl (hH b e)
end Rg
namespace Rg.LR
open PySem PySem.Spec L2
open Sem (wp)
open AutoSeq1 (wpAny_loadPart')
section
variable {prog : Program} {w : World} {A : Around} {E : Value → Shared → Prop} {s : Shared}
theorem extend_long {R : Result → Shared → Prop} {r : Addr} {a b c : Int} {t u v : Tok} {n : Nat} (hh : A.handled = none) (hr : IsRange s.heap r a b c t u v) (hsmall : Builtin.Range.small a b c = false)
    (hn : Builtin.Range.rangeSize a b c = n) (hlen : n ≤ 2 ^ 24) (S : Addr) (res : Value) (c₀ : Nat) (hS : s.heap.get? S = some { cls := .type "list", data := .seq #[] c₀ })
    (hR : ∀ h' tk acc' c', (∀ b o, b ≠ S → s.heap.get? b = some o → h'.get? b = some o) → h'.get? S = some { cls := .type "list", dict := none, data := .seq acc' c', slots := #[] } →
      ItemsOf (fun i v => ∃ t, v = .int (a + i * c) t) acc' n → R (.ok (.ret res)) { s with heap := h', toks := tk }) :
    wpAny (model prog w) A.in1 (Builtin.List.listExtendWith (.ref S) (.ref r) res)
      (fun fin s' => match fin with | .done f => R (.ok f) s' | .again c' => c'.quiet = true ∧ codeAny (model prog w) A c' R s') (fun e s' => R (.error e) s') s := by
  have hSr : S ≠ r := fun e => by rw [e, hr] at hS; simp at hS
  have hSlt : S < s.heap.objs.size := Heap.lt_size hS
  have hSI : S ≠ s.heap.objs.size := Nat.ne_of_lt hSlt
  have hSf : S ∉ [s.heap.objs.size] := fun hm => hSI (List.mem_singleton.mp hm)
  have W := (Walks.longrange (prog := prog) (w := w) (A := A.in1) hh s.heap.objs.size a c n).toS

  have key : ∀ (h : Heap) (c₁ tk : Nat), IsLongIter h s.heap.objs.size (a + ((0 : Nat) : Int) * c) ((n : Int) - ((0 : Nat) : Int)) c → (∀ b o, b ≠ S → s.heap.get? b = some o → h.get? b = some o) →
      h.get? S = some { cls := .type "list", data := .seq #[] c₁ } → codeAny (model prog w) A (.builtin "list.extend.loop" ⟨[.ref S, .ref s.heap.objs.size, res], []⟩) R { s with heap := h, toks := tk } := by
    intro h c₁ tk hit hk hS₁
    refine codeAny_extend_loopS W (by rw [sizeLine_eq]; omega) S hSf res n 0 _ #[] c₁ rfl (Nat.zero_le _) hit hS₁ (ItemsOf.nil _) fun s' acc' c' hm hS' hacc => ?_
    rw [Moved.eq_with hm]
    refine hR s'.heap s'.toks acc' c' (fun b o hb e => hm.heap b o (fun hmem => ?_) (hk b o hb e)) hS' hacc
    rcases List.mem_cons.mp hmem with e' | hmem
    · exact hb e'
    · exact absurd (Heap.lt_size e) (by rw [List.mem_singleton.mp hmem]; exact Nat.lt_irrefl _)
  unfold Builtin.List.listExtendWith
  refine wpAny_bind (wpAny_typeOf (T := "range") ⟨_, hr, rfl⟩ ?_)
  have h1 : Builtin.List.listSameRef (.ref S) (.ref r) = false := by simp [Builtin.List.listSameRef, hSr]
  have h2 : (Value.type "range" == Value.type "list") = false := by decide
  have h3 : (Value.type "range" == Value.type "tuple") = false := by decide
  simp only [h1, h2, h3, Bool.or_false, Bool.false_eq_true, if_false]
  refine wpAny_bind (wpAny_pyIter_longrange hr hsmall ?_)
  refine wpAny_bind (wpAny_holding (wpAny_hint_range (n := n) (Heap.get?_push_of_some _ hr) hn hlen ?_))
  have hit₁ : IsLongIter (s.heap.push { cls := .type "longrange_iterator", data := .fields #[rawInt a, rawInt (Builtin.Range.rangeSize a b c), rawInt c] }) s.heap.objs.size (a + ((0 : Nat) : Int) * c) ((n : Int) - ((0 : Nat) : Int)) c := by
    show IsLongIter _ _ _ _ _; rw [hn]; simpa using Heap.get?_push_size _ rfl
  have hS₁ := Heap.get?_push_of_some { cls := .type "longrange_iterator", data := .fields #[rawInt a, rawInt (Builtin.Range.rangeSize a b c), rawInt c] } hS
  refine wpAny_ite_split (fun _ => ?_) (fun _ => wpAny_pure ⟨plainId_quiet F.plain_extend_loop _, key _ c₀ _ hit₁ (fun b o _ e => Heap.get?_push_of_some _ e) hS₁⟩)
  refine wpAny_bind (wpAny_rule ?_)
  refine wpAny_bind ?_
  show wpAny _ _ (updateSeq S (·.push .none) >>= fun _ => updateSeq S (·.pop)) _ _ _
  refine wpAny_bind (wpAny_updateSeq hS₁ rfl ?_)
  have hS₂ := Heap.get?_update_self (Obj.mapSeq (·.push Value.none)) hS₁ rfl
  refine wpAny_updateSeq (hz := by seq_fits) hS₂ rfl ?_
  have hS₃ := Heap.get?_update_self (Obj.mapSeq (·.pop)) hS₂ rfl
  refine wpAny_pure ⟨plainId_quiet F.plain_extend_loop _, key _ _ _ ?_ (fun b o hb e => ?_) hS₃⟩
  · exact (Heap.get?_update_other _ _ hSI).trans ((Heap.get?_update_other _ _ hSI).trans hit₁)
  · exact (Heap.get?_update_other _ _ (Ne.symm hb)).trans ((Heap.get?_update_other _ _ (Ne.symm hb)).trans (Heap.get?_push_of_some _ e))

theorem list_init_long {R : Result → Shared → Prop} {r : Addr} {a b c : Int} {t u v : Tok} {n : Nat} (hh : A.handled = none) (hr : IsRange s.heap r a b c t u v) (hsmall : Builtin.Range.small a b c = false)
    (hn : Builtin.Range.rangeSize a b c = n) (hlen : n ≤ 2 ^ 24) (S : Addr) (hS : s.heap.get? S = some { cls := .type "list", data := .seq #[] })
    (hR : ∀ h' tk acc' c', (∀ b o, b ≠ S → s.heap.get? b = some o → h'.get? b = some o) → h'.get? S = some { cls := .type "list", dict := none, data := .seq acc' c', slots := #[] } →
      ItemsOf (fun i v => ∃ t, v = .int (a + i * c) t) acc' n → R (.ok (.ret .none)) { s with heap := h', toks := tk }) :
    wpAny (model prog w) A.in1 (Builtin.«list.__init__» ⟨[.ref S, .ref r], []⟩)
      (fun fin s' => match fin with | .done f => R (.ok f) s' | .again c' => c'.quiet = true ∧ codeAny (model prog w) A c' R s') (fun e s' => R (.error e) s') s := by
  have hSr : S ≠ r := fun e => by rw [e, hr] at hS; simp at hS
  show wpAny _ _ (do let old ← Builtin.List.listItems (.ref S); Builtin.List.listUpdate (.ref S) (fun _ => #[]); letGo old.toList.reverse; Builtin.List.listExtendWith (.ref S) (.ref r) .none) _ _ s
  refine wpAny_bind ?_
  unfold Builtin.List.listItems
  refine wpAny_bind (wpAny_seqItems hS rfl (wpAny_pure ?_))
  show wpAny _ _ (updateSeq S (fun _ => #[]) >>= fun _ => letGo (#[] : Array Value).toList.reverse >>= fun _ => Builtin.List.listExtendWith (.ref S) (.ref r) .none) _ _ s
  refine wpAny_bind (wpAny_updateSeq hS rfl ?_)
  have hS₂ := Heap.get?_update_self (Obj.mapSeq (fun _ => (#[] : Array Value))) hS rfl
  have oth : ∀ b o, b ≠ S → s.heap.get? b = some o → (s.heap.update S (Obj.mapSeq (fun _ => (#[] : Array Value)))).get? b = some o :=
    fun b o hb e => (Heap.get?_update_other _ _ (Ne.symm hb)).trans e
  refine wpAny_bind (wpAny_letGo ?_)
  refine extend_long hh (oth r _ (Ne.symm hSr) hr) hsmall hn hlen S .none _ hS₂ fun h' tk acc' c' hk hS' hacc => ?_
  exact hR h' tk acc' c' (fun b o hb e => hk b o hb (oth b o hb e)) hS' hacc
end

section
variable {prog : Program} {w : World} {A : Around} {E : Value → Shared → Prop} {s : Shared}

theorem call_list_long {Q : Value → Shared → Prop} {r : Addr} {a b c : Int} {t u v : Tok} {n : Nat} (hh : A.handled = none) (hr : IsRange s.heap r a b c t u v) (hsmall : Builtin.Range.small a b c = false)
    (hn : Builtin.Range.rangeSize a b c = n) (hlen : n ≤ 2 ^ 24)
    (hQ : ∀ h' tk acc' c', (∀ b o, s.heap.get? b = some o → h'.get? b = some o) →
      h'.get? s.heap.objs.size = some { cls := .type "list", dict := none, data := .seq acc' c', slots := #[] } → ItemsOf (fun i v => ∃ t, v = .int (a + i * c) t) acc' n → Q (.ref s.heap.objs.size) { s with heap := h', toks := tk }) :
    wpAny (model prog w) A (call (.type "list") [.ref r]) Q E s := by
  refine callType_codes (Q₁ := fun obj s₁ => obj = .ref s.heap.objs.size ∧ s₁ = { s with heap := s.heap.push { cls := .type "list", data := .seq #[] } }) F.called_list (F.typeCall_list_1 _) F.entry_list_init
    (code_list_new _ ⟨rfl, rfl⟩) fun obj s₁ h₁ => ?_
  obtain ⟨rfl, rfl⟩ := h₁
  have hS : (s.heap.push { cls := .type "list", data := .seq #[] }).get? s.heap.objs.size = some { cls := .type "list", data := .seq #[] } := Heap.get?_push_size _ rfl
  refine ⟨⟨_, hS, rfl⟩, F.args_list_init_2 _ _, list_init_long (A := A.in1) hh (Heap.get?_push_of_some _ hr) hsmall hn hlen _ hS fun h' tk acc' c' hk hS' hacc => ?_⟩
  exact ⟨rfl, hQ h' tk acc' c' (fun b o e => hk b o (Nat.ne_of_lt (Heap.lt_size e)) (Heap.get?_push_of_some _ e)) hS' hacc⟩
end
section
variable {prog : Program} {w : World} {A : Around} {E : Value → Shared → Prop} {s : Shared}
theorem call_list_any {Q : Value → Shared → Prop} {r : Addr} {a b c : Int} {t u v : Tok} {n : Nat} (hh : A.handled = none) (hr : IsRange s.heap r a b c t u v)
    (hn : Builtin.Range.rangeSize a b c = n) (hlen : n ≤ 2 ^ 24)
    (hQ : ∀ h' tk acc' c', (∀ b o, s.heap.get? b = some o → h'.get? b = some o) →
      h'.get? s.heap.objs.size = some { cls := .type "list", dict := none, data := .seq acc' c', slots := #[] } → ItemsOf (fun i v => ∃ t, v = .int (a + i * c) t) acc' n → Q (.ref s.heap.objs.size) { s with heap := h', toks := tk }) :
    wpAny (model prog w) A (call (.type "list") [.ref r]) Q E s := by
  cases hs : Builtin.Range.small a b c with
  | true => exact call_list_range hh hr hs hn hlen hQ
  | false => exact call_list_long hh hr hs hn hlen hQ
end
section
variable {X : Cx} {e : Expr} {te : L2.St → Hp → (Int → Int → Hp → Prop) → Prop}
def tLstRgW (te : L2.St → Hp → (Int → Int → Hp → Prop) → Prop) : TE := fun σ H Q => te σ H fun a b H1 => (b - a).toNat ≤ 2 ^ 24 ∧ ∀ q, H1 q = none → Q (.ref q) (upd H1 q (.lst (rgV a b)))
open PyProof.Rows in
theorem pe_listRgW {p pos : Pos} (hc : X.calm = true) (hg : Gl X "list") (hm : X.mg "list" = none) (he : PRg X e te) (na : starEach [e] X.env = (false, eval e X.env) :: starEach [] X.env := by rfl) : PE X (.Call (.Name "list" p) [e] [] pos) (tLstRgW te) := by
  refine ⟨fun pins s σ H Q I h => ?_⟩
  refine Call_ (ld_blt I hg hm boot_list (PyProof.Rows.callWith_type1 (args_cons (thn (he pins s σ H _ I h) fun x s1 ⟨r, a, b, t, u, v, H1, ex, hr, I1, ok, q⟩ => args_nil ?_) na) na))
  subst ex
  have b5 := ok
  refine call_list_any (n := (b - a).toNat) (I1.ok.hd hc) hr (rangeSize_nat a b) b5 fun h' tk acc c' hk e' hi => ?_
  refine ⟨.ref s1.heap.objs.size, upd H1 s1.heap.objs.size (.lst (rgV a b)), I1.laid hk (Nat.le_refl _) (show ObjOk X.prog X.w _ _ _ (.lst (rgV a b)) from ⟨?_, acc.toList, c', vals_rg hi, ?_⟩), rfl, q _ (I1.hok.fresh (Nat.le_refl _))⟩
  · rw [rgV_length, sizeLine_eq]; omega
  · rw [Array.toArray_toList]; exact e'

end
end Rg.LR
namespace Rg
open PySem L2
def tp (i : Nat) : Stmt := PySem.Challenge.pw_readgrove_k29_whole_all_readings_unlike.main.body.getD i (.Pass ⟨0, 0, 0, 0⟩)
abbrev st_is_name : Stmt := tp 7
abbrev st_names : Stmt := tp 8
abbrev st_rules_of : Stmt := tp 9
abbrev st_grammar_of : Stmt := tp 10
abbrev st_add_end : Stmt := tp 12
abbrev st_ends_of : Stmt := tp 13
abbrev st_places_behind : Stmt := tp 14
abbrev st_cuts_from : Stmt := tp 15
abbrev st_covered : Stmt := tp 16
abbrev st_found_facts : Stmt := tp 17
abbrev st_facts : Stmt := tp 18
abbrev st_parts_of : Stmt := tp 20
abbrev st_ways_of : Stmt := tp 21
abbrev st_grove : Stmt := tp 22
abbrev st_beneath : Stmt := tp 23
abbrev st_gone_down : Stmt := tp 24
abbrev st_counts_of : Stmt := tp 25
abbrev st_way_count : Stmt := tp 26
abbrev st_grove_count : Stmt := tp 27
abbrev st_way_numbered : Stmt := tp 28
abbrev st_tasks_of : Stmt := tp 29
abbrev st_tree_numbered : Stmt := tp 30
abbrev st_all_knots : Stmt := tp 32
abbrev st_row_of : Stmt := tp 33
abbrev st_is_made : Stmt := tp 34
abbrev st_right_tree : Stmt := tp 35
abbrev st_is_reading : Stmt := tp 36
abbrev st_law_cell : Stmt := tp 38
abbrev st_law_stir : Stmt := tp 39
abbrev st_law_drawn : Stmt := tp 40
abbrev st_law_grammar : Stmt := tp 41
abbrev st_law_is_name : Stmt := tp 42
abbrev st_law_row : Stmt := tp 43
abbrev st_law_grown : Stmt := tp 44
abbrev st_law_numbers : Stmt := tp 45
abbrev st_law : Stmt := tp 46
theorem sc_is_name : FnScope ["part"] ["part"] (defScope st_is_name) := ⟨rfl, rfl, rfl, by decide +kernel, rfl, by decide +kernel, by decide +kernel⟩
theorem sc_names : FnScope ["grammar", "found", "name", "parts", "cost"] ["grammar"] (defScope st_names) := ⟨rfl, rfl, rfl, by decide +kernel, rfl, by decide +kernel, by decide +kernel⟩
theorem sc_rules_of : FnScope ["grammar", "name", "number", "rule"] ["grammar", "name"] (defScope st_rules_of) := ⟨rfl, rfl, rfl, by decide +kernel, rfl, by decide +kernel, by decide +kernel⟩
theorem sc_grammar_of : FnScope ["rules", "known", "name", "parts", "cost", "part"] ["rules"] (defScope st_grammar_of) := ⟨rfl, rfl, rfl, by decide +kernel, rfl, by decide +kernel, by decide +kernel⟩
theorem sc_add_end : FnScope ["ends", "name", "begin", "end", "some"] ["ends", "name", "begin", "end"] (defScope st_add_end) := ⟨rfl, rfl, rfl, by decide +kernel, rfl, by decide +kernel, by decide +kernel⟩
theorem sc_ends_of : FnScope ["known", "many", "ends", "name", "begin", "end"] ["known", "many"] (defScope st_ends_of) := ⟨rfl, rfl, rfl, by decide +kernel, rfl, by decide +kernel, by decide +kernel⟩
theorem sc_places_behind : FnScope ["row", "ends", "part", "place"] ["row", "ends", "part", "place"] (defScope st_places_behind) := ⟨rfl, rfl, rfl, by decide +kernel, rfl, by decide +kernel, by decide +kernel⟩
theorem sc_cuts_from : FnScope ["row", "ends", "parts", "begin", "last", "found", "part", "longer", "cut", "place"] ["row", "ends", "parts", "begin", "last"] (defScope st_cuts_from) := ⟨rfl, rfl, rfl, by decide +kernel, rfl, by decide +kernel, by decide +kernel⟩
theorem sc_covered : FnScope ["row", "ends", "parts", "begin", "found", "part", "further", "place", "behind"] ["row", "ends", "parts", "begin"] (defScope st_covered) := ⟨rfl, rfl, rfl, by decide +kernel, rfl, by decide +kernel, by decide +kernel⟩
theorem sc_found_facts : FnScope ["grammar", "row", "ends", "found", "new", "fresh", "number", "rule", "begin", "end", "cut", "name"] ["grammar", "row"] (defScope st_found_facts) := ⟨rfl, rfl, rfl, by decide +kernel, rfl, by decide +kernel, by decide +kernel⟩
theorem sc_facts : FnScope ["grammar", "row"] ["grammar", "row"] (defScope st_facts) := ⟨rfl, rfl, rfl, by decide +kernel, rfl, by decide +kernel, by decide +kernel⟩
theorem sc_parts_of : FnScope ["grammar", "way", "number", "cut", "found", "k", "part"] ["grammar", "way"] (defScope st_parts_of) := ⟨rfl, rfl, rfl, by decide +kernel, rfl, by decide +kernel, by decide +kernel⟩
theorem sc_ways_of : FnScope ["grammar", "row", "ends", "fact", "name", "begin", "end", "found", "number", "cut"] ["grammar", "row", "ends", "fact"] (defScope st_ways_of) := ⟨rfl, rfl, rfl, by decide +kernel, rfl, by decide +kernel, by decide +kernel⟩
theorem sc_grove : FnScope ["grammar", "row", "known", "top", "ends", "ways", "pile", "fact", "way"] ["grammar", "row"] (defScope st_grove) := ⟨rfl, rfl, rfl, by decide +kernel, rfl, by decide +kernel, by decide +kernel⟩
theorem sc_beneath : FnScope ["grammar", "ways", "found", "way", "fact"] ["grammar", "ways"] (defScope st_beneath) := ⟨rfl, rfl, rfl, by decide +kernel, rfl, by decide +kernel, by decide +kernel⟩
theorem sc_gone_down : FnScope ["grammar", "some", "ways", "ready", "done", "top", "own", "way_down", "pile", "fact", "over", "part"] ["grammar", "some"] (defScope st_gone_down) := ⟨rfl, rfl, rfl, by decide +kernel, rfl, by decide +kernel, by decide +kernel⟩
theorem sc_counts_of : FnScope ["grammar", "some", "found", "ready", "ways", "counts", "fact", "way"] ["grammar", "some"] (defScope st_counts_of) := ⟨rfl, rfl, rfl, by decide +kernel, rfl, by decide +kernel, by decide +kernel⟩
theorem sc_way_count : FnScope ["grammar", "counts", "way", "many", "fact"] ["grammar", "counts", "way"] (defScope st_way_count) := ⟨rfl, rfl, rfl, by decide +kernel, rfl, by decide +kernel, by decide +kernel⟩
theorem sc_grove_count : FnScope ["grammar", "row", "counts"] ["grammar", "row"] (defScope st_grove_count) := ⟨rfl, rfl, rfl, by decide +kernel, rfl, by decide +kernel, by decide +kernel⟩
theorem sc_way_numbered : FnScope ["grammar", "counts", "ways", "number", "way", "many", "numbers", "fact", "own"] ["grammar", "counts", "ways", "number"] (defScope st_way_numbered) := ⟨rfl, rfl, rfl, by decide +kernel, rfl, by decide +kernel, by decide +kernel⟩
theorem sc_tasks_of : FnScope ["grammar", "way", "numbers", "left", "found", "part", "fact", "number"] ["grammar", "way", "numbers"] (defScope st_tasks_of) := ⟨rfl, rfl, rfl, by decide +kernel, rfl, by decide +kernel, by decide +kernel⟩
theorem sc_tree_numbered : FnScope ["grammar", "row", "number", "some", "counts", "top", "ways", "made", "pile", "thing", "own", "way", "numbers", "children"] ["grammar", "row", "number"] (defScope st_tree_numbered) := ⟨rfl, rfl, rfl, by decide +kernel, rfl, by decide +kernel, by decide +kernel⟩
theorem sc_all_knots : FnScope ["tree", "found", "pile", "knot", "deep", "child"] ["tree"] (defScope st_all_knots) := ⟨rfl, rfl, rfl, by decide +kernel, rfl, by decide +kernel, by decide +kernel⟩
theorem sc_row_of : FnScope ["tree", "found", "pile", "child"] ["tree"] (defScope st_row_of) := ⟨rfl, rfl, rfl, by decide +kernel, rfl, by decide +kernel, by decide +kernel⟩
theorem sc_is_made : FnScope ["grammar", "knot", "number", "children", "part", "child"] ["grammar", "knot"] (defScope st_is_made) := ⟨rfl, rfl, rfl, by decide +kernel, rfl, by decide +kernel, by decide +kernel⟩
theorem sc_right_tree : FnScope ["grammar", "name", "tree", "knot", "deep"] ["grammar", "name", "tree"] (defScope st_right_tree) := ⟨rfl, rfl, rfl, by decide +kernel, rfl, by decide +kernel, by decide +kernel⟩
theorem sc_is_reading : FnScope ["grammar", "row", "tree"] ["grammar", "row", "tree"] (defScope st_is_reading) := ⟨rfl, rfl, rfl, by decide +kernel, rfl, by decide +kernel, by decide +kernel⟩
theorem sc_law_cell : FnScope ["script", "k"] ["script", "k"] (defScope st_law_cell) := ⟨rfl, rfl, rfl, by decide +kernel, rfl, by decide +kernel, by decide +kernel⟩
theorem sc_law_stir : FnScope ["cell", "k", "number"] ["cell", "k"] (defScope st_law_stir) := ⟨rfl, rfl, rfl, by decide +kernel, rfl, by decide +kernel, by decide +kernel⟩
theorem sc_law_drawn : FnScope ["cell", "sizes", "found", "rest", "k", "size"] ["cell", "sizes"] (defScope st_law_drawn) := ⟨rfl, rfl, rfl, by decide +kernel, rfl, by decide +kernel, by decide +kernel⟩
theorem sc_law_grammar : FnScope ["script", "cells", "heads", "used", "rules", "head", "cell", "d", "parts", "number", "k"] ["script"] (defScope st_law_grammar) := ⟨rfl, rfl, rfl, by decide +kernel, rfl, by decide +kernel, by decide +kernel⟩
theorem sc_law_is_name : FnScope ["part"] ["part"] (defScope st_law_is_name) := ⟨rfl, rfl, rfl, by decide +kernel, rfl, by decide +kernel, by decide +kernel⟩
theorem sc_law_row : FnScope ["script", "rules", "most", "cells", "row", "k", "open_now", "at", "own", "rule", "cell", "word"] ["script", "rules", "most"] (defScope st_law_row) := ⟨rfl, rfl, rfl, by decide +kernel, rfl, by decide +kernel, by decide +kernel⟩
theorem sc_law_grown : FnScope ["rules", "row", "most", "waiting", "found", "steps", "numbers", "open_now", "done", "k", "more"] ["rules", "row", "most"] (defScope st_law_grown) := ⟨rfl, rfl, rfl, by decide +kernel, rfl, by decide +kernel, by decide +kernel⟩
theorem sc_law_numbers : FnScope ["tree", "found", "pile", "knot"] ["tree"] (defScope st_law_numbers) := ⟨rfl, rfl, rfl, by decide +kernel, rfl, by decide +kernel, by decide +kernel⟩
theorem sc_law : FnScope ["script", "rules", "row", "grammar", "many", "numbers", "trees", "k", "rows", "number", "tree", "one"] ["script"] (defScope st_law) := ⟨rfl, rfl, rfl, by decide +kernel, rfl, by decide +kernel, by decide +kernel⟩
end Rg
namespace Rg
open PySem PySem.Spec L2
/-! ### data in the heap: what never changes -/
abbrev vN (n : Nat) : V := .int (n : Int)
abbrev dN (n : Nat) : PyData := .int (n : Int)
mutual
inductive Is (H : Hp) : V → PyData → Prop
  | non : Is H .non .none
  | bl (b : Bool) : Is H (.bl b) (.bool b)
  | int (i : Int) : Is H (.int i) (.int i)
  | str (x : Str) : Is H (.str x) (.str x)
  | tup {a : Addr} {xs : List V} {ds : List PyData} : H a = some (.tup xs) → IsL H xs ds → Is H (.ref a) (.tuple ds)
inductive IsL (H : Hp) : List V → List PyData → Prop
  | nil : IsL H [] []
  | cons {v : V} {vs : List V} {d : PyData} {ds : List PyData} : Is H v d → IsL H vs ds → IsL H (v :: vs) (d :: ds)
end
/-- the tuples stand -/
def TuS (H H' : Hp) : Prop := ∀ b xs, H b = some (.tup xs) → H' b = some (.tup xs)
theorem TuS.of {H H' : Hp} (s : Same H H') : TuS H H' := fun _ _ e => s _ _ e
theorem TuS.refl (H : Hp) : TuS H H := fun _ _ e => e
theorem TuS.trans {H H1 H2 : Hp} (a : TuS H H1) (b : TuS H1 H2) : TuS H H2 := fun _ _ e => b _ _ (a _ _ e)
theorem TuS.wr {H : Hp} {D : Addr} {o u : HO} (h : H D = some o) (n : ∀ xs, o ≠ .tup xs) : TuS H (upd H D u) := fun b xs e => by
  rw [upd_ne (ne_of e h fun z => n xs z.symm)]
  exact e
theorem TuS.lst {H : Hp} {D : Addr} {us : List V} {u : HO} (h : H D = some (.lst us)) : TuS H (upd H D u) := TuS.wr h fun _ z => nomatch z
theorem TuS.new {H : Hp} {D : Addr} {u : HO} (h : H D = none) : TuS H (upd H D u) := fun b xs e => by
  rw [upd_ne (ne_of_none e h)]
  exact e
mutual
theorem Is.monoT {H H' : Hp} (s : TuS H H') : ∀ {d : PyData} {v : V}, Is H v d → Is H' v d
  | _, _, .non => .non
  | _, _, .bl b => .bl b
  | _, _, .int i => .int i
  | _, _, .str x => .str x
  | _, _, .tup h hs => .tup (s _ _ h) (IsL.monoT s hs)
theorem IsL.monoT {H H' : Hp} (s : TuS H H') : ∀ {ds : List PyData} {vs : List V}, IsL H vs ds → IsL H' vs ds
  | _, _, .nil => .nil
  | _, _, .cons h hs => .cons (Is.monoT s h) (IsL.monoT s hs)
end
theorem Is.mono {H H' : Hp} (s : Same H H') {d : PyData} {v : V} (h : Is H v d) : Is H' v d := h.monoT (.of s)
theorem IsL.mono {H H' : Hp} (s : Same H H') {ds : List PyData} {vs : List V} (h : IsL H vs ds) : IsL H' vs ds := h.monoT (.of s)
mutual
theorem Is.dp {H : Hp} (K : PySem.W.Frag) : ∀ {d : PyData} {v : V}, Is H v d → Dp K H v d
  | _, _, .non => .non
  | _, _, .bl b => .bl b
  | _, _, .int i => .int i
  | _, _, .str x => .str x
  | _, _, .tup h hs => .tup (SqT.of h) (IsL.dp K hs)
theorem IsL.dp {H : Hp} (K : PySem.W.Frag) : ∀ {ds : List PyData} {vs : List V}, IsL H vs ds → DpAll K H vs ds
  | _, _, .nil => .nil
  | _, _, .cons h hs => .cons (Is.dp K h) (IsL.dp K hs)
end
theorem Is.tup_inv {H : Hp} {v : V} {ds : List PyData} (h : Is H v (.tuple ds)) : ∃ a xs, v = .ref a ∧ H a = some (.tup xs) ∧ IsL H xs ds := by
  cases h with
  | tup h hs => exact ⟨_, _, rfl, h, hs⟩
theorem Is.int_inv {H : Hp} {v : V} {i : Int} (h : Is H v (.int i)) : v = .int i := by cases h; rfl
theorem Is.str_inv {H : Hp} {v : V} {x : Str} (h : Is H v (.str x)) : v = .str x := by cases h; rfl
theorem Is.bl_inv {H : Hp} {v : V} {b : Bool} (h : Is H v (.bool b)) : v = .bl b := by cases h; rfl
theorem IsL.cons_inv {H : Hp} {xs : List V} {d : PyData} {ds : List PyData} (h : IsL H xs (d :: ds)) : ∃ v vs, xs = v :: vs ∧ Is H v d ∧ IsL H vs ds := by
  cases h with
  | cons h hs => exact ⟨_, _, rfl, h, hs⟩
theorem IsL.nil_inv {H : Hp} {xs : List V} (h : IsL H xs []) : xs = [] := by cases h; rfl
theorem IsL.length {H : Hp} : ∀ {vs : List V} {ds : List PyData}, IsL H vs ds → vs.length = ds.length
  | _, _, .nil => rfl
  | _, _, .cons _ t => by rw [List.length_cons, List.length_cons, IsL.length t]
theorem IsL.append {H : Hp} : ∀ {vs ws : List V} {ds es : List PyData}, IsL H vs ds → IsL H ws es → IsL H (vs ++ ws) (ds ++ es)
  | _, _, _, _, .nil, q => q
  | _, _, _, _, .cons h t, q => .cons h (IsL.append t q)
theorem IsL.snoc {H : Hp} {vs : List V} {v : V} {ds : List PyData} {d : PyData} (h : IsL H vs ds) (q : Is H v d) : IsL H (vs ++ [v]) (ds ++ [d]) := h.append (.cons q .nil)
theorem IsL.get {H : Hp} : ∀ {vs : List V} {ds : List PyData} {i : Nat} {v : V}, IsL H vs ds → vs[i]? = some v → ∃ d, ds[i]? = some d ∧ Is H v d
  | _, _, _, _, .nil, e => by simp at e
  | _, _, 0, _, .cons h _, e => by
    have e' := Option.some.inj e
    subst e'
    exact ⟨_, rfl, h⟩
  | _, _, i + 1, _, .cons _ t, e => by
    obtain ⟨d, h1, h2⟩ := IsL.get (i := i) t (by simpa using e)
    exact ⟨d, by simpa using h1, h2⟩
theorem IsL.get' {H : Hp} : ∀ {vs : List V} {ds : List PyData} {i : Nat} {d : PyData}, IsL H vs ds → ds[i]? = some d → ∃ v, vs[i]? = some v ∧ Is H v d
  | _, _, _, _, .nil, e => by simp at e
  | _, _, 0, _, .cons h _, e => by
    have e' := Option.some.inj e
    subst e'
    exact ⟨_, rfl, h⟩
  | _, _, i + 1, _, .cons _ t, e => by
    obtain ⟨v, h1, h2⟩ := IsL.get' (i := i) t (by simpa using e)
    exact ⟨v, by simpa using h1, h2⟩
theorem IsL.take {H : Hp} : ∀ {vs : List V} {ds : List PyData} (n : Nat), IsL H vs ds → IsL H (vs.take n) (ds.take n)
  | _, _, 0, _ => .nil
  | _, _, _ + 1, .nil => .nil
  | _, _, n + 1, .cons h t => .cons h (IsL.take n t)
theorem IsL.drop {H : Hp} : ∀ {vs : List V} {ds : List PyData} (n : Nat), IsL H vs ds → IsL H (vs.drop n) (ds.drop n)
  | _, _, 0, q => q
  | _, _, _ + 1, .nil => .nil
  | _, _, n + 1, .cons _ t => IsL.drop n t
theorem IsL.reverse {H : Hp} : ∀ {vs : List V} {ds : List PyData}, IsL H vs ds → IsL H vs.reverse ds.reverse
  | _, _, .nil => .nil
  | _, _, .cons h t => by
    rw [List.reverse_cons, List.reverse_cons]
    exact t.reverse.snoc h
theorem IsL.ints {H : Hp} : ∀ (ns : List Nat), IsL H (ns.map vN) (ns.map dN)
  | [] => .nil
  | n :: ns => .cons (.int _) (IsL.ints ns)
theorem IsL.ints_inv {H : Hp} : ∀ {ns : List Nat} {xs : List V}, IsL H xs (ns.map dN) → xs = ns.map vN
  | [], _, h => h.nil_inv
  | n :: ns, _, h => by
    obtain ⟨v, vs, rfl, h1, h2⟩ := h.cons_inv
    rw [h1.int_inv, IsL.ints_inv h2]
    rfl
theorem IsL.strs {H : Hp} : ∀ (ws : List Str), IsL H (ws.map V.str) (ws.map PyData.str)
  | [] => .nil
  | n :: ns => .cons (.str _) (IsL.strs ns)
theorem IsL.strs_inv {H : Hp} : ∀ {ws : List Str} {xs : List V}, IsL H xs (ws.map PyData.str) → xs = ws.map V.str
  | [], _, h => h.nil_inv
  | n :: ns, _, h => by
    obtain ⟨v, vs, rfl, h1, h2⟩ := h.cons_inv
    rw [h1.str_inv, IsL.strs_inv h2]
    rfl
/-- a list of data at a -/
def LD (H : Hp) (a : Addr) (ds : List PyData) : Prop := ∃ vs, H a = some (.lst vs) ∧ IsL H vs ds
theorem LD.mono {H H' : Hp} {a : Addr} {ds : List PyData} (s : Same H H') (h : LD H a ds) : LD H' a ds := h.elim fun vs q => ⟨vs, s _ _ q.1, q.2.mono s⟩
/-- a list of words at a -/
def WL (H : Hp) (a : Addr) (ws : List Str) : Prop := H a = some (.lst (ws.map V.str))
def NL (H : Hp) (a : Addr) (ns : List Nat) : Prop := H a = some (.lst (ns.map vN))

/-! ### heaps that grow -/
theorem same_upd {H0 H : Hp} {a : Addr} {o : HO} (s : Same H0 H) (h : H0 a = none) : Same H0 (upd H a o) := fun b u e => by
  rw [upd_ne (ne_of_none e h)]
  exact s b u e
theorem same_new {H : Hp} {a : Addr} {o : HO} (h : H a = none) : Same H (upd H a o) := same_upd (Same.refl H) h

/-! ### callees -/
structure Cal (P : Program) (w : World) (K : PySem.W.Frag) (mg : Str → Option Value) (base : Heap) (k : Nat) (nm : Str) (ps : List Str) (sp : Sp) : Prop where
  ex : ∃ (f : Addr) (fd : FuncData), FnOk P w K mg base CX0 k f fd ps sp ∧ mg nm = some (.ref f) ∧ PySem.W.keepIn K (.ref f) = true ∧ Binds K fd ps []
theorem Cal.mk' {P : Program} {w : World} {K : PySem.W.Frag} {mg : Str → Option Value} {base : Heap} {k : Nat} {nm : Str} {ps : List Str} {sp : Sp} {f : Addr} {fd : FuncData} (F : FnOk P w K mg base CX0 k f fd ps sp) (m : mg nm = some (.ref f)) (kp : PySem.W.keepIn K (.ref f) = true) (b : Binds K fd ps []) :
    Cal P w K mg base k nm ps sp := ⟨f, fd, F, m, kp, b⟩
theorem pe_cal {X : Cx} {k : Nat} {nm : Str} {ps : List Str} {sp : Sp} {p pos : Pos} {e : Expr} {es : List Expr} {t : TA} (C : Cal X.prog X.w X.K X.mg X.base k nm ps sp) (hr : Room k X.A) (hg : Gl X nm) (ha : PA X (e :: es) t)
    (hdb : (nm == ("__debug__" : Str)) = false := by decide) (he : starEach (e :: es) X.env = (false, eval e X.env) :: starEach es X.env := by rfl) (hpl : (backTo pos (starEach es X.env)).any (·.1) = false := by rfl) :
    PE X (.Call (.Name nm p) (e :: es) [] pos) (tCall sp [] E0 t) := by
  obtain ⟨f, fd, F, m, kp, b⟩ := C.ex
  exact pe_call F hr hg m kp b .nil pass0 ha hdb he hpl
/-- the built-ins' names are free -/
structure Bl (mg : Str → Option Value) : Prop where
  len : mg "len" = none
  range : mg "range" = none
  enumerate : mg "enumerate" = none
  tuple : mg "tuple" = none
  list : mg "list" = none
  sorted : mg "sorted" = none
  dict : mg "dict" = none
  reversed : mg "reversed" = none
  zip : mg "zip" = none
  divmod : mg "divmod" = none
  isinstance : mg "isinstance" = none
  str : mg "str" = none
  sum : mg "sum" = none
  min : mg "min" = none
  max : mg "max" = none
  all : mg "all" = none
  int : mg "int" = none

/-! ### grammars, facts, ways -/
structure Rl where
  nm : Str
  ps : List Str
  ct : Int
abbrev Gr := List Rl
abbrev Fct := Str × Nat × Nat
abbrev Way := Nat × List Nat
def eNats (c : List Nat) : PyData := .tuple (c.map dN)
def eFct (f : Fct) : PyData := .tuple [.str f.1, .int (f.2.1 : Int), .int (f.2.2 : Int)]
def eWay (w : Way) : PyData := .tuple [.int (w.1 : Int), eNats w.2]
def eRl (r : Rl) : PyData := .tuple [.str r.nm, .tuple (r.ps.map .str), .int r.ct]
def great : Str := "ABCDEFGHIJKLMNOPQRSTUVWXYZ"
def isN (s : Str) : Bool := match s.cps.toList.head? with
  | none => false
  | some c => decide (c ∈ great.cps.toList)
end Rg
namespace Rg
open PySem PySem.Spec L2
section
variable {X : Cx} {o e e2 : Expr} {to te te2 : TE} {apos cpos pos p : Pos}
theorem pe_app (ho : PE X o to) (he : PE X e te) (hbase : attributeBase o "append" X.env (eval o X.env) = eval o X.env := by rfl)
    (hfew : ((backTo cpos (starEach [e] X.env)).all (fun x => !x.1) && (backToKw cpos (keywordEach [] X.env)).all (fun x => x.1.isSome)
      && decide (([e] : List Expr).length + ([] : List Keyword).length + (if ([] : List Keyword).isEmpty then 0 else 1) < 30)) = true := by rfl)
    (hline : (apos.endLine == cpos.line) = true := by rfl) (hs : starEach [e] X.env = (false, eval e X.env) :: starEach [] X.env := by rfl) (hplain : (backTo cpos (starEach [] X.env)).any (·.1) = false := by rfl) :
    PE X (.Call (.Attribute o "append" apos) [e] [] cpos) (tBM X.K "list" rAppend to (tCons te tNil)) :=
  pe_bm PySem.F.plainAttrs_list PySem.F.slot_list_append PySem.F.type_list_append mt_append ho (pa_cons he pa_nil hs) hbase hfew hline hs hplain
theorem pe_ext (ho : PE X o to) (he : PE X e te) (hbase : attributeBase o "extend" X.env (eval o X.env) = eval o X.env := by rfl)
    (hfew : ((backTo cpos (starEach [e] X.env)).all (fun x => !x.1) && (backToKw cpos (keywordEach [] X.env)).all (fun x => x.1.isSome)
      && decide (([e] : List Expr).length + ([] : List Keyword).length + (if ([] : List Keyword).isEmpty then 0 else 1) < 30)) = true := by rfl)
    (hline : (apos.endLine == cpos.line) = true := by rfl) (hs : starEach [e] X.env = (false, eval e X.env) :: starEach [] X.env := by rfl) (hplain : (backTo cpos (starEach [] X.env)).any (·.1) = false := by rfl) :
    PE X (.Call (.Attribute o "extend" apos) [e] [] cpos) (tBM X.K "list" rExtend to (tCons te tNil)) :=
  pe_bm PySem.F.plainAttrs_list PySem.F.slot_list_extend PySem.F.type_list_extend mt_extend ho (pa_cons he pa_nil hs) hbase hfew hline hs hplain
theorem pe_popAt (ho : PE X o to) (he : PE X e te) (hbase : attributeBase o "pop" X.env (eval o X.env) = eval o X.env := by rfl)
    (hfew : ((backTo cpos (starEach [e] X.env)).all (fun x => !x.1) && (backToKw cpos (keywordEach [] X.env)).all (fun x => x.1.isSome)
      && decide (([e] : List Expr).length + ([] : List Keyword).length + (if ([] : List Keyword).isEmpty then 0 else 1) < 30)) = true := by rfl)
    (hline : (apos.endLine == cpos.line) = true := by rfl) (hs : starEach [e] X.env = (false, eval e X.env) :: starEach [] X.env := by rfl) (hplain : (backTo cpos (starEach [] X.env)).any (·.1) = false := by rfl) :
    PE X (.Call (.Attribute o "pop" apos) [e] [] cpos) (tBM X.K "list" rPopAt to (tCons te tNil)) :=
  pe_bm PySem.F.plainAttrs_list PySem.F.slot_list_pop PySem.F.type_list_pop mt_popAt ho (pa_cons he pa_nil hs) hbase hfew hline hs hplain
theorem pe_pop (ho : PE X o to) (hbase : attributeBase o "pop" X.env (eval o X.env) = eval o X.env := by rfl) (hline : (apos.endLine == cpos.line) = true := by rfl) :
    PE X (.Call (.Attribute o "pop" apos) [] [] cpos) (tBM0 X.K "list" rPop to) :=
  pe_bm0 PySem.F.plainAttrs_list PySem.F.slot_list_pop PySem.F.type_list_pop mt_pop ho hbase hline
theorem pe_len (B : Bl X.mg) (hg : Gl X "len") (he : PE X e te) (hs : starEach [e] X.env = (false, eval e X.env) :: starEach [] X.env := by rfl) (hpl : (backTo pos (starEach [] X.env)).any (·.1) = false := by rfl) :
    PE X (.Call (.Name "len" p) [e] [] pos) (tCB (fun xs H Q => ∃ p ys, xs = [.ref p] ∧ (SqL X.K H p ys ∨ SqT X.K H p ys) ∧ Q (.int ys.length) H) (tCons te tNil)) :=
  pe_callB call_len_seq hg B.len PySem.boot_len (pa_cons he pa_nil hs) (by decide) (by decide) hs hpl
end
section
variable {X : Cx} {K : PySem.W.Frag}
/-! the same with the written part named (within comprehensions) -/
theorem ixT (h : X.K = K := by rfl) : IxR X (rIxT K) := by subst h; exact ix_tup
theorem ixL (h : X.K = K := by rfl) : IxR X (rIxL K) := by subst h; exact ix_list
theorem inS (h : X.K = K := by rfl) : OpR X (compareOp .In) (rIn K false) := by subst h; exact op_in_seq
theorem ninS (h : X.K = K := by rfl) : OpR X (compareOp .NotIn) (rIn K true) := by subst h; exact op_notIn_seq
def rTupOf (K : PySem.W.Frag) : List V → Hp → VK → Prop := fun xs H Q => ∃ p ys, xs = [.ref p] ∧ ((SqL K H p ys ∧ ∀ l, H l = none → Q (.ref l) (upd H l (.tup ys))) ∨ (SqT K H p ys ∧ Q (.ref p) H))
theorem tupOf (h : X.K = K := by rfl) : CallR X (.type "tuple") (rTupOf K) := by subst h; exact call_tuple_of
def rLstOf (K : PySem.W.Frag) : List V → Hp → VK → Prop := fun xs H Q => ∃ p ys, xs = [.ref p] ∧ (SqL K H p ys ∨ SqT K H p ys) ∧ ∀ l, H l = none → Q (.ref l) (upd H l (.lst ys))
theorem lstOf (h : X.K = K := by rfl) : CallR X (.type "list") (rLstOf K) := by subst h; exact call_list_of
def rLen (K : PySem.W.Frag) : List V → Hp → VK → Prop := fun xs H Q => ∃ p ys, xs = [.ref p] ∧ (SqL K H p ys ∨ SqT K H p ys) ∧ Q (.int ys.length) H
theorem lenS (h : X.K = K := by rfl) : CallR X (.builtin "len") (rLen K) := by subst h; exact call_len_seq
theorem slL (h : X.K = K := by rfl) : SlR X (rSlL K) := by subst h; exact sl_list
end
/-- where one is short of no room -/
theorem small6 {n : Nat} (h : n ≤ 1000000) : n < sizeLine := Nat.lt_of_le_of_lt h (by decide)
theorem small6' {n : Nat} (h : n ≤ 1000000) : n ≤ sizeLine := Nat.le_of_lt (small6 h)
theorem getRl {H : Hp} {G : Gr} {vs : List V} {i : Nat} {v : V} (h : IsL H vs (G.map eRl)) (e : vs[i]? = some v) :
    ∃ r a p, G[i]? = some r ∧ v = .ref a ∧ H a = some (.tup [.str r.nm, .ref p, .int r.ct]) ∧ H p = some (.tup (r.ps.map V.str)) := by
  obtain ⟨d, h1, h2⟩ := h.get e
  rw [List.getElem?_map] at h1
  cases q : G[i]? with
  | none => rw [q] at h1; cases h1
  | some r =>
    rw [q] at h1
    have ed : eRl r = d := Option.some.inj h1
    subst ed
    obtain ⟨a, xs, rfl, ha, hx⟩ := h2.tup_inv
    obtain ⟨v1, r1, rfl, b1, hx⟩ := hx.cons_inv
    obtain ⟨v2, r2, rfl, b2, hx⟩ := hx.cons_inv
    obtain ⟨v3, r3, rfl, b3, hx⟩ := hx.cons_inv
    rw [hx.nil_inv] at ha
    obtain ⟨p, ys, rfl, hp, hy⟩ := b2.tup_inv
    rw [b1.str_inv, b3.int_inv] at ha
    rw [hy.strs_inv] at hp
    exact ⟨r, a, p, rfl, rfl, ha, hp⟩
theorem getRl' {H : Hp} {G : Gr} {vs : List V} {i : Nat} {r : Rl} (h : IsL H vs (G.map eRl)) (e : G[i]? = some r) :
    ∃ a p, vs[i]? = some (.ref a) ∧ H a = some (.tup [.str r.nm, .ref p, .int r.ct]) ∧ H p = some (.tup (r.ps.map V.str)) := by
  obtain ⟨v, h1, _⟩ := h.get' (i := i) (d := eRl r) (by rw [List.getElem?_map, e]; rfl)
  obtain ⟨r', a, p, h2, rfl, h3, h4⟩ := getRl h h1
  rw [e] at h2
  cases h2
  exact ⟨a, p, h1, h3, h4⟩
end Rg
namespace Rg
open PySem PySem.Spec L2
section
variable {P : Program} {w : World} {K : PySem.W.Frag} {mg : Str → Option Value} {base : Heap} {f : Addr} {fd : FuncData}
/-! is_name -/
def sp_is_name : Sp := fun vs H Q _ => ∃ s : Str, vs = [.str s] ∧ s.length < 1000 ∧ Q (.bl (isN s)) H
theorem str_empty_iff {s : Str} : s = "" ↔ s.cps.toList = [] := by
  constructor
  · rintro rfl; rfl
  · intro h
    cases s with
    | mk c =>
      have : c = #[] := by simpa using h
      rw [this]; rfl
theorem ok_is_name (F : Fun K "is_name" "is_name" st_is_name f fd) (hG : ∃ t, mg "GREAT" = some (.str great t)) : FnOk P w K mg base CX0 1 f fd ["part"] sp_is_name := by
  obtain ⟨tg, hG⟩ := hG
  refine F.ok sc_is_name (fun vs H Q E h => ?_) (fun cdv A outer s H vs Q E hr h => ?_)
  · obtain ⟨s, rfl, _⟩ := h
    rfl
  · obtain ⟨x, rfl, hx, q⟩ := h
    refine ⟨_, pss_one (ps_ret (pe_and (pe_cmpR op_ne (pv 0) pe_str (nomark _)) (pe_one (pe_cmpR op_in_sign (pe_item_str (pv 0) pe_int (fun _ _ => rfl)) (pe_glob (v := .str great) rfl hG ⟨_, rfl⟩) rfl)))), ?_⟩
    refine ⟨_, rfl, rfl, _, rfl, ?_⟩
    cases e : x.cps.toList with
    | nil =>
      have ex : x = "" := str_empty_iff.mpr e
      have en : isN x = false := by unfold isN; rw [e]; rfl
      rw [en] at q
      subst ex
      exact iteF q
    | cons c r =>
      have ex : ¬ (V.str x = V.str "") := fun z => by
        have z' := V.str.inj z
        rw [str_empty_iff.mp z'] at e
        cases e
      have en : isN x = decide (c ∈ great.cps.toList) := by unfold isN; rw [e]; rfl
      rw [en] at q
      rw [decide_eq_false ex]
      have hl : x.cps.size = r.length + 1 := by rw [← Array.length_toList, e]; rfl
      refine iteT ⟨_, rfl, x, 0, c, rfl, rfl, by decide, by decide, ?_, ?_, c, great, rfl, rfl, q⟩
      · show (0 : Int) < (x.cps.size : Int)
        omega
      · show x.cps[0]? = some c
        rw [← Array.getElem?_toList, e]
        rfl
end
end Rg
namespace Rg
open PySem PySem.Spec L2
section
variable {P : Program} {w : World} {K : PySem.W.Frag} {mg : Str → Option Value} {base : Heap} {f : Addr} {fd : FuncData}
/-! names -/
def sp_names : Sp := fun vs H Q _ => ∃ (a : Addr) (G : Gr), vs = [.ref a] ∧ LD H a (G.map eRl) ∧ G.length ≤ 1000 ∧
  ∀ H' p ws, Same H H' → H p = none → WL H' p ws → ws.length ≤ 1000 → (∀ r ∈ G, r.nm ∈ ws) → Q (.ref p) H'
theorem inV_str {x : Str} {ws : List Str} : inV (.str x) (ws.map V.str) = decide (x ∈ ws) := by
  unfold inV
  rw [List.any_map]
  induction ws with
  | nil => rfl
  | cons y ws ih =>
    rw [List.any_cons, ih]
    show ((y == x) || decide (x ∈ ws)) = decide (x ∈ y :: ws)
    by_cases e : y = x
    · subst e; simp
    · have e' : ¬ x = y := fun z => e z.symm
      simp [e, e']
theorem flat_strs (ws : List Str) : (ws.map V.str).all flatV = true := by
  rw [List.all_eq_true]
  intro x hx
  obtain ⟨y, _, rfl⟩ := List.mem_map.mp hx
  rfl
theorem ok_names (F : Fun K "names" "names" st_names f fd) : FnOk P w K mg base CX0 1 f fd ["grammar"] sp_names := by
  refine F.ok sc_names (fun vs H Q E h => ?_) (fun cdv A outer s H vs Q E hr h => ?_)
  · obtain ⟨a, G, rfl, _⟩ := h
    rfl
  · obtain ⟨a, G, rfl, ⟨vs, hv, hG⟩, hl, k⟩ := h
    have nd := sc_names.nd
    refine ⟨_, pss_cons (ps_set (i := 1) nd rfl (Or.inl rfl) (pe_lst pa_nil))
      (pss_cons (ps_for PassesOwn.never rfl (pi_list (pv 0)) (pg_tup rfl (pgs_cons (pg_name (i := 2) nd rfl (Or.inl rfl)) (pgs_cons (pg_name (i := 3) nd rfl (Or.inl rfl)) (pgs_cons (pg_name (i := 4) nd rfl (Or.inl rfl)) pgs_nil))))
        (pss_one (ps_if (pt_cmpR op_notIn_seq (pv 2) (pv 1) rfl) (pss_one (ps_expr (pe_app (pv 1) (pv 2)))) pss_nil)))
      (pss_one (ps_ret (pv 1)))), ?_⟩
    refine ⟨by decide, fun p hp => ?_⟩
    have lv := hG.length
    rw [List.length_map] at lv
    refine ⟨_, rfl, a, rfl, ⟨_, SqL.of (same_new hp _ _ hv)⟩, for_list (K := K) (a := a) (xs := vs) (fun i σ H2 => ∃ (ws : List Str) (o1 o2 o3 : Option V), σ = [some (.ref a), some (.ref p), o1, o2, o3] ∧ Same H H2 ∧ WL H2 p ws ∧ ws.length ≤ i ∧ ∀ j r, j < i → G[j]? = some r → r.nm ∈ ws)
      ⟨[], none, none, none, rfl, same_new hp, upd_same, Nat.le_refl _, fun j r hj => absurd hj (Nat.not_lt_zero _)⟩ (fun i σ H2 _ ⟨_, _, _, _, _, s2, _⟩ => SqL.of (s2 _ _ hv)) ?_ ?_⟩
    · rintro i y σ H2 hi ⟨ws, o1, o2, o3, rfl, s2, hw, hwl, hin⟩
      have hil : i < vs.length := (List.getElem?_eq_some_iff.mp hi).1
      obtain ⟨r, b, pa, hr1, rfl, hb, hpa⟩ := getRl hG hi
      refine ⟨b, _, rfl, SqT.of (s2 _ _ hb), rfl, _, _, rfl, _, _, rfl, _, _, rfl, rfl, ?_⟩
      refine ⟨_, rfl, _, rfl, p, _, rfl, .inl (SqL.of hw), rfl, flat_strs ws, _, rfl, ?_⟩
      have next : ∀ ws', ws'.length ≤ i + 1 → (∀ x ∈ ws, x ∈ ws') → r.nm ∈ ws' → ∀ H3, Same H H3 → WL H3 p ws' →
          ∃ (ws : List Str) (o1 o2 o3 : Option V), [some (V.ref a), some (.ref p), some (.str r.nm), some (.ref pa), some (.int r.ct)] = [some (.ref a), some (.ref p), o1, o2, o3] ∧ Same H H3 ∧ WL H3 p ws ∧ ws.length ≤ i + 1 ∧ ∀ j r, j < i + 1 → G[j]? = some r → r.nm ∈ ws := by
        intro ws' h1 h2 h3 H3 s3 hw3
        refine ⟨ws', _, _, _, rfl, s3, hw3, h1, fun j r' hj e => ?_⟩
        by_cases hji : j = i
        · subst hji
          rw [hr1] at e
          cases e
          exact h3
        · exact h2 _ (hin j r' (by omega) e)
      rw [inV_str]
      by_cases hm : r.nm ∈ ws
      · rw [decide_eq_true hm]
        exact iteF (next ws (by omega) (fun _ q => q) hm H2 s2 hw)
      · rw [decide_eq_false hm]
        refine iteT ⟨_, rfl, .inl ⟨rfl, _, SqL.of hw⟩, _, rfl, p, _, _, rfl, rfl, hw, by rw [List.length_map]; exact small1000 (by omega), ?_⟩
        refine next (ws ++ [r.nm]) (by rw [List.length_append, List.length_singleton]; omega) (fun x q => List.mem_append_left _ q) (by simp) _ (same_upd s2 hp) ?_
        unfold WL
        rw [upd_same, List.map_append]
        rfl
    · rintro σ H2 ⟨ws, o1, o2, o3, rfl, s2, hw, hwl, hin⟩
      refine ⟨_, rfl, k H2 p ws s2 hp hw (by omega) fun r hr => ?_⟩
      obtain ⟨j, hj, e⟩ := List.getElem_of_mem hr
      exact hin j r (by omega) (by rw [List.getElem?_eq_getElem hj, e])
end
end Rg
namespace Rg
open PySem PySem.Spec L2
/-- the numbers of a name's rules -/
def isOf (G : Gr) (x : Str) (n : Nat) : Bool := match G[n]? with
  | some r => decide (r.nm = x)
  | none => false
def rulesOf (G : Gr) (x : Str) : List Nat := (List.range G.length).filter (isOf G x)
section
variable {P : Program} {w : World} {K : PySem.W.Frag} {mg : Str → Option Value} {base : Heap} {f : Addr} {fd : FuncData}
def sp_rules_of : Sp := fun vs H Q _ => ∃ (a : Addr) (G : Gr) (x : Str), vs = [.ref a, .str x] ∧ LD H a (G.map eRl) ∧ G.length ≤ 1000 ∧
  ∀ H' p, Same H H' → H p = none → NL H' p (rulesOf G x) → Q (.ref p) H'
theorem ok_rules_of (F : Fun K "rules_of" "rules_of" st_rules_of f fd) (B : Bl mg) : FnOk P w K mg base CX0 1 f fd ["grammar", "name"] sp_rules_of := by
  refine F.ok sc_rules_of (fun vs H Q E h => ?_) (fun cdv A outer s H vs Q E hr h => ?_)
  · obtain ⟨a, G, x, rfl, _⟩ := h
    rfl
  · obtain ⟨a, G, x, rfl, ⟨vs, hv, hG⟩, hl, k⟩ := h
    have nd := sc_rules_of.nd
    refine ⟨_, pss_one (ps_ret (pe_lc (own := [("number", 2), ("rule", 3)]) (g := gTup K 2 (gCons (gName 2) (gCons (gName 3) gNil))) rfl nd (pi_enum rfl B.enumerate (pa_cons (pv 0) pa_nil)) (blkOk_by (N := ["grammar", "name", "number", "rule"]) (sc := defScope st_rules_of) (by decide +kernel))
      (fun _ _ _ _ _ => pg_tup rfl (pgs_cons (pg_name (i := 2) nd rfl (Or.inl rfl)) (pgs_cons (pg_name (i := 3) nd rfl (Or.inl rfl)) pgs_nil)))
      (fun _ _ _ _ _ => pts_one (pt_cmpR op_eq (pe_ix (r := rIxT K) ix_tup (pv 3) pe_int (fun _ _ => rfl)) (pv 1) (nomark _)))
      (fun _ _ _ _ _ => pv 2))), ?_⟩
    have lv := hG.length
    rw [List.length_map] at lv
    refine ⟨_, rfl, a, vs, rfl, SqL.of hv, fun D hD => ?_⟩
    refine lc_it (walk_enum (xs := vs)) (fun i H2 => Same H H2 ∧ NL H2 D ((List.range i).filter (isOf G x))) ⟨same_new hD, upd_same⟩ (fun i H2 _ q => SqL.of (q.1 _ _ hv)) ?_ ?_
    · rintro i v H2 H3 hi ⟨s2, hn⟩ ⟨T, x1, y1, rfl, hT, rfl, e1, e2⟩
      cases e1
      obtain ⟨r, b, pa, hr1, rfl, hb, hpa⟩ := getRl hG e2
      have s3 : Same H (upd H2 T (.tup [.int (i : Nat), .ref b])) := s2.trans (same_new hT)
      have hDT : D ≠ T := ne_of_none hn hT
      have hn3 : NL (upd H2 T (.tup [.int (i : Nat), .ref b])) D ((List.range i).filter (isOf G x)) := by
        unfold NL
        rw [upd_ne hDT]
        exact hn
      refine ⟨T, _, rfl, SqT.of upd_same, rfl, _, _, rfl, _, _, rfl, rfl, rfl, ?_⟩
      refine ⟨_, rfl, b, _, 0, _, rfl, rfl, SqT.of (s3 _ _ hb), atI_nat (j := 0) rfl, _, rfl, rfl, _, rfl, ?_⟩
      have hio : isOf G x i = decide (V.str r.nm = V.str x) := by
        unfold isOf
        rw [hr1]
        by_cases e : r.nm = x
        · subst e
          simp
        · have : ¬ V.str r.nm = V.str x := fun z => e (V.str.inj z)
          rw [decide_eq_false this]
          exact decide_eq_false e
      rw [List.range_succ, List.filter_append]
      rw [← hio]
      cases e : isOf G x i with
      | true =>
        refine iteT ⟨_, rfl, _, hn3, ?_, same_upd s3 hD, ?_⟩
        · rw [List.length_map]
          refine small1000 ?_
          have := List.length_filter_le (isOf G x) (List.range i)
          rw [List.length_range] at this
          omega
        · unfold NL
          rw [upd_same, List.map_append]
          simp [e]
      | false =>
        refine iteF ⟨s3, ?_⟩
        simpa [e] using hn3
    · rintro H2 ⟨s2, hn⟩
      refine k H2 D s2 hD ?_
      unfold rulesOf
      rw [← lv]
      exact hn
end
end Rg
namespace Rg
open PySem PySem.Spec L2
/-- what a grammar is made of -/
structure GrOk (G : Gr) : Prop where
  ne : G ≠ []
  len : G.length ≤ 8
  ct : ∀ r ∈ G, 0 ≤ r.ct
  ps : ∀ r ∈ G, r.ps.length ≤ 4
  short : ∀ r ∈ G, ∀ p ∈ r.ps, p.length < 1000
  known : ∀ r ∈ G, ∀ p ∈ r.ps, isN p = true → ∃ r' ∈ G, r'.nm = p
section
variable {P : Program} {w : World} {K : PySem.W.Frag} {mg : Str → Option Value} {base : Heap} {f : Addr} {fd : FuncData}
def sp_grammar_of : Sp := fun vs H Q _ => ∃ (a : Addr) (G : Gr), vs = [.ref a] ∧ LD H a (G.map eRl) ∧ GrOk G ∧
  ∀ H' p, Same H H' → H p = none → LD H' p (G.map eRl) → Q (.ref p) H'
theorem ok_grammar_of (F : Fun K "grammar_of" "grammar_of" st_grammar_of f fd) (B : Bl mg) (Cn : Cal P w K mg base 1 "names" ["grammar"] sp_names) (Ci : Cal P w K mg base 1 "is_name" ["part"] sp_is_name) :
    FnOk P w K mg base CX0 2 f fd ["rules"] sp_grammar_of := by
  refine F.ok sc_grammar_of (fun vs H Q E h => ?_) (fun cdv A outer s H vs Q E hr h => ?_)
  · obtain ⟨a, G, rfl, _⟩ := h
    rfl
  · obtain ⟨a, G, rfl, ⟨vs, hv, hG⟩, ok, k⟩ := h
    have nd := sc_grammar_of.nd
    refine ⟨_, pss_cons (ps_if (pt_cmpR (op_eqE hr.units0) (pv 0) (pe_lst pa_nil) (nomark _)) (pss_one ps_never) pss_nil)
      (pss_cons (ps_set (i := 1) nd rfl (Or.inl rfl) (pe_cal Cn hr rfl (pa_cons (pv 0) pa_nil)))
      (pss_cons (ps_for PassesOwn.never rfl (pi_list (pv 0)) (pg_tup rfl (pgs_cons (pg_name (i := 2) nd rfl (Or.inl rfl)) (pgs_cons (pg_name (i := 3) nd rfl (Or.inl rfl)) (pgs_cons (pg_name (i := 4) nd rfl (Or.inl rfl)) pgs_nil))))
        (pss_cons (ps_if (pt_cmpR op_lt (pv 4) pe_int (nomark _)) (pss_one ps_never) pss_nil)
        (pss_one (ps_for PassesOwn.never rfl (pi_tup (pv 3)) (pg_name (i := 5) nd rfl (Or.inl rfl))
          (pss_one (ps_if (PW.pt (pw_and (pt_val (pe_cal Ci hr rfl (pa_cons (pv 5) pa_nil))) (pw_and1 (pt_cmpR op_notIn_seq (pv 5) (pv 1) rfl)))) (pss_one ps_never) pss_nil))))))
      (pss_one (ps_ret (pe_lc (own := [("name", 2), ("parts", 3), ("cost", 4)]) (g := gTup K 3 (gCons (gName 2) (gCons (gName 3) (gCons (gName 4) gNil)))) (tt := tYes) rfl nd (pi_list (pv 0)) (blkOk_by (N := ["rules", "known", "name", "parts", "cost", "part"]) (sc := defScope st_grammar_of) (by decide +kernel))
        (fun _ _ _ _ _ => pg_tup rfl (pgs_cons (pg_name (i := 2) nd rfl (Or.inl rfl)) (pgs_cons (pg_name (i := 3) nd rfl (Or.inl rfl)) (pgs_cons (pg_name (i := 4) nd rfl (Or.inl rfl)) pgs_nil))))
        (fun _ _ _ _ _ => pts_nil)
        (fun _ _ _ _ _ => pe_tup (pa_cons (pv 2) (pa_cons (pe_callTy (r := rTupOf K) (tupOf) rfl B.tuple PyProof.Rows.boot_tuple (pa_cons (pv 3) pa_nil)) (pa_cons (pv 4) pa_nil))))))))), ?_⟩
    have lv := hG.length
    rw [List.length_map] at lv
    have neG : vs ≠ [] := fun e => ok.ne (List.length_eq_zero_iff.mp (by rw [← lv, e]; rfl))
    have eE : vs.isEmpty = false := by
      cases vs with
      | nil => exact absurd rfl neG
      | cons _ _ => rfl
    -- if rules == []
    refine ⟨_, rfl, by decide, fun p0 hp0 => ⟨a, p0, vs, rfl, rfl, SqL.of (same_new hp0 _ _ hv), SqL.of upd_same, _, rfl, ?_⟩⟩
    rw [eE]
    refine iteF ?_
    have s0 : Same H (upd H p0 (.lst [])) := same_new hp0
    -- known = names(rules)
    refine ⟨_, rfl, a, G, rfl, ⟨vs, s0 _ _ hv, hG.mono s0⟩, Nat.le_trans ok.len (by decide), fun H1 pk ws s1 hpk hw hwl hin => ?_⟩
    have s01 := s0.trans s1
    refine ⟨_, rfl, a, rfl, ⟨_, SqL.of (s01 _ _ hv)⟩, for_list (K := K) (a := a) (xs := vs) (fun i σ H2 => ∃ (o1 o2 o3 o4 : Option V), σ = [some (.ref a), some (.ref pk), o1, o2, o3, o4] ∧ Same H1 H2)
      ⟨none, none, none, none, rfl, Same.refl _⟩ (fun i σ H2 _ ⟨_, _, _, _, _, s2⟩ => SqL.of (s01.trans s2 _ _ hv)) ?_ ?_⟩
    · rintro i y σ H2 hi ⟨o1, o2, o3, o4, rfl, s2⟩
      obtain ⟨r, b, pa, hr1, rfl, hb, hpa⟩ := getRl hG hi
      have hrG : r ∈ G := List.mem_of_getElem? hr1
      have s02 := s01.trans s2
      refine ⟨b, _, rfl, SqT.of (s02 _ _ hb), rfl, _, _, rfl, _, _, rfl, _, _, rfl, rfl, ?_⟩
      have hct : ¬ r.ct < 0 := by have := ok.ct r hrG; omega
      refine ⟨_, rfl, _, _, rfl, rfl, _, rfl, ?_⟩
      rw [decide_eq_false hct]
      refine iteF ?_
      refine ⟨_, rfl, pa, rfl, ⟨_, SqT.of (s02 _ _ hpa)⟩, for_tup (K := K) (a := pa) (xs := r.ps.map V.str) (fun j σ H3 => ∃ o4 : Option V, σ = [some (.ref a), some (.ref pk), some (.str r.nm), some (.ref pa), some (.int r.ct), o4] ∧ Same H1 H3)
        ⟨_, rfl, s2⟩ (fun j σ H3 _ ⟨_, _, s3⟩ => SqT.of (s01.trans s3 _ _ hpa)) ?_ ?_⟩
      · rintro j y σ H3 hj ⟨o5, rfl, s3⟩
        rw [List.getElem?_map] at hj
        cases ej : r.ps[j]? with
        | none => rw [ej] at hj; cases hj
        | some q =>
          rw [ej] at hj
          cases hj
          have hq : q ∈ r.ps := List.mem_of_getElem? ej
          refine ⟨_, rfl, q, rfl, ok.short r hrG q hq, _, rfl, ?_⟩
          cases en : isN q with
          | false => exact iteF (iteF ⟨_, rfl, s3⟩)
          | true =>
            refine iteT ⟨_, rfl, _, rfl, pk, _, rfl, .inl (SqL.of (s3 _ _ hw)), rfl, flat_strs ws, _, rfl, ?_⟩
            rw [inV_str]
            obtain ⟨r', hr', e'⟩ := ok.known r hrG q hq en
            have hm : q ∈ ws := e' ▸ hin r' hr'
            rw [decide_eq_true hm]
            exact iteF ⟨_, rfl, s3⟩
      · rintro σ H3 ⟨o4, rfl, s3⟩
        exact ⟨_, _, _, _, rfl, s3⟩
    · rintro σ H2 ⟨o1, o2, o3, o4, rfl, s2⟩
      have s02 := s01.trans s2
      refine ⟨_, rfl, a, rfl, ⟨_, SqL.of (s02 _ _ hv)⟩, fun D hD => ?_⟩
      refine lc_list (K := K) (a := a) (xs := vs) (fun i H3 => Same H2 H3 ∧ ∃ us, H3 D = some (.lst us) ∧ IsL H3 us ((G.take i).map eRl) ∧ us.length = i) ⟨same_new hD, [], upd_same, .nil, rfl⟩ (fun i H3 _ q => SqL.of (s02.trans q.1 _ _ hv)) ?_ ?_
      · rintro i y H3 hi ⟨s3, us, hus, hIs, hul⟩
        obtain ⟨r, b, pa, hr1, rfl, hb, hpa⟩ := getRl hG hi
        have hil : i < vs.length := (List.getElem?_eq_some_iff.mp hi).1
        have s03 := s02.trans s3
        refine ⟨b, _, rfl, SqT.of (s03 _ _ hb), rfl, _, _, rfl, _, _, rfl, _, _, rfl, rfl, rfl, ?_⟩
        unfold tYes
        refine iteT ?_
        refine ⟨_, rfl, _, rfl, pa, _, rfl, .inr ⟨SqT.of (s03 _ _ hpa), _, rfl, by show 3 ≤ sizeLine; decide, fun q hq => ?_⟩⟩
        have hDq : D ≠ q := ne_of_none hus hq
        have s4 : Same H3 (upd H3 q (.tup [.str r.nm, .ref pa, .int r.ct])) := same_new hq
        have lG := ok.len
        refine ⟨us, by rw [upd_ne hDq]; exact hus, small1000 (by omega), same_upd (s3.trans s4) hD, us ++ [.ref q], upd_same, ?_, by simp [hul]⟩
        have t5 : TuS H3 (upd (upd H3 q (.tup [.str r.nm, .ref pa, .int r.ct])) D (.lst (us ++ [.ref q]))) := (TuS.of s4).trans (TuS.lst (us := us) (by rw [upd_ne hDq]; exact hus))
        have et : G.take (i + 1) = G.take i ++ [r] := by rw [List.take_add_one, hr1]; rfl
        rw [et, List.map_append]
        refine (hIs.monoT t5).snoc ?_
        refine .tup (xs := [.str r.nm, .ref pa, .int r.ct]) (by rw [upd_ne (Ne.symm hDq)]; exact upd_same) (.cons (.str _) (.cons (.tup (t5 _ _ (s03 _ _ hpa)) (IsL.strs _)) (.cons (.int _) .nil)))
      · rintro H3 ⟨s3, us, hus, hIs, hul⟩
        refine k H3 D (s02.trans s3) (s02.free hD) ⟨us, hus, ?_⟩
        rw [lv, List.take_length] at hIs
        exact hIs
end
end Rg
namespace Rg
open PySem PySem.Spec L2
theorem valV_memp {κ : Type} [DecidableEq κ] {kvs : List (κ × V)} {k : κ} {v : V} (h : valV kvs k = some v) : (k, v) ∈ kvs := by
  unfold valV at h
  obtain ⟨p, hp, e⟩ := Option.map_eq_some_iff.mp h
  have h1 := List.find?_some hp
  have h2 := List.mem_of_find?_eq_some hp
  have h3 : p.1 = k := by simpa using h1
  rw [← h3, ← e]
  exact h2
theorem valV_ndmem {κ : Type} [DecidableEq κ] {kvs : List (κ × V)} (hn : (kvs.map (·.1)).Nodup) {k : κ} {v : V} (h : (k, v) ∈ kvs) : valV kvs k = some v := by
  induction kvs with
  | nil => cases h
  | cons p r ih =>
    rw [List.map_cons, List.nodup_cons] at hn
    rcases List.mem_cons.mp h with e | h
    · subst e
      exact valV_pos rfl
    · rw [valV_neg, ih hn.2 h]
      intro e
      exact hn.1 (List.mem_map.mpr ⟨_, h, e.symm⟩)
theorem nd_inj {α β : Type} {f : α → β} : ∀ {l : List α} {x y : α}, (l.map f).Nodup → x ∈ l → y ∈ l → f x = f y → x = y
  | [], _, _, _, h, _, _ => by cases h
  | a :: l, x, y, hn, hx, hy, e => by
    rw [List.map_cons, List.nodup_cons] at hn
    rcases List.mem_cons.mp hx with ex | hx1
    · rcases List.mem_cons.mp hy with ey | hy1
      · rw [ex, ey]
      · exact absurd (show f a ∈ l.map f from List.mem_map.mpr ⟨y, hy1, by rw [← e, ex]⟩) hn.1
    · rcases List.mem_cons.mp hy with ey | hy1
      · exact absurd (show f a ∈ l.map f from List.mem_map.mpr ⟨x, hx1, by rw [e, ey]⟩) hn.1
      · exact nd_inj hn.2 hx1 hy1 e
/-- the key of a name and a place -/
def eKey (x : Str) (i : Nat) : List Key := [.inr x, .inl (i : Int)]
theorem eKey_inj {x y : Str} {i j : Nat} (h : eKey x i = eKey y j) : x = y ∧ i = j := by
  unfold eKey at h
  simp only [List.cons.injEq, Sum.inr.injEq, Sum.inl.injEq] at h
  exact ⟨h.1, by omega⟩
/-- the dict of ends: E x i are the ends of the name x from the place i; its own objects stand out of H0 -/
structure EndsAt (H0 H : Hp) (d : Addr) (E : Str → Nat → List Nat) (m : Nat) : Prop where
  out : H0 d = none
  ex : ∃ kvs : List (List Key × V), H d = some (.dT kvs) ∧ kvs.length ≤ m ∧ (kvs.map (·.1)).Nodup ∧ (kvs.map (·.2)).Nodup ∧
    (∀ p ∈ kvs, ∃ x i l, p = (eKey x i, .ref l) ∧ NL H l (E x i) ∧ H0 l = none ∧ (E x i).length ≤ m) ∧ (∀ x i, valV kvs (eKey x i) = none → E x i = [])
theorem EndsAt.mono {H0 H H' : Hp} {d : Addr} {E : Str → Nat → List Nat} {m : Nat} (h : EndsAt H0 H d E m) (s : Same H H') : EndsAt H0 H' d E m := by
  obtain ⟨out, kvs, h1, h2, h3, h4, h5, h6⟩ := h
  refine ⟨out, kvs, s _ _ h1, h2, h3, h4, fun p hp => ?_, h6⟩
  obtain ⟨x, i, l, e, q1, q2, q3⟩ := h5 p hp
  exact ⟨x, i, l, e, s _ _ q1, q2, q3⟩
/-- .. of another foreign heap -/
theorem EndsAt.base {H0 H1 H : Hp} {d : Addr} {E : Str → Nat → List Nat} {m : Nat} (h : EndsAt H0 H d E m) (s : ∀ b, H0 b = none → H1 b = none) : EndsAt H1 H d E m := by
  obtain ⟨out, kvs, h1, h2, h3, h4, h5, h6⟩ := h
  refine ⟨s _ out, kvs, h1, h2, h3, h4, fun p hp => ?_, h6⟩
  obtain ⟨x, i, l, e, q1, q2, q3⟩ := h5 p hp
  exact ⟨x, i, l, e, q1, s _ q2, q3⟩
/-- what is none of the ends' objects -/
noncomputable def offE (H : Hp) (d : Addr) : Hp := fun b => open Classical in
  if b = d ∨ ∃ kvs k, H d = some (.dT kvs) ∧ (k, V.ref b) ∈ kvs then none else H b
theorem offE_same {H : Hp} {d : Addr} : Same (offE H d) H := fun b o e => by
  unfold offE at e
  split at e
  · cases e
  · exact e
theorem EndsAt.off {H0 H : Hp} {d : Addr} {E : Str → Nat → List Nat} {m : Nat} (h : EndsAt H0 H d E m) : EndsAt (offE H d) H d E m := by
  obtain ⟨out, kvs, h1, h2, h3, h4, h5, h6⟩ := h
  refine ⟨?_, kvs, h1, h2, h3, h4, fun p hp => ?_, h6⟩
  · unfold offE
    rw [if_pos (.inl rfl)]
  · obtain ⟨x, i, l, e, q1, q2, q3⟩ := h5 p hp
    refine ⟨x, i, l, e, q1, ?_, q3⟩
    unfold offE
    rw [if_pos (.inr ⟨kvs, eKey x i, h1, e ▸ hp⟩)]
/-- what stood in the foreign heap is none of the ends' -/
theorem EndsAt.offOf {H0 H : Hp} {d : Addr} {E : Str → Nat → List Nat} {m : Nat} (h : EndsAt H0 H d E m) {b : Addr} (hb : H0 b ≠ none) : offE H d b = H b := by
  obtain ⟨out, kvs, h1, h2, h3, h4, h5, h6⟩ := h
  unfold offE
  rw [if_neg]
  rintro (rfl | ⟨kvs', k, e, hm⟩)
  · exact hb out
  · rw [h1] at e
    cases e
    obtain ⟨x, i, l, e', q1, q2, q3⟩ := h5 _ hm
    have : V.ref b = V.ref l := congrArg Prod.snd e'
    cases this
    exact hb q2
theorem EndsAt.up {H0 H : Hp} {d : Addr} {E : Str → Nat → List Nat} {m n : Nat} (h : EndsAt H0 H d E m) (hn : m ≤ n) : EndsAt H0 H d E n := by
  obtain ⟨out, kvs, h1, h2, h3, h4, h5, h6⟩ := h
  refine ⟨out, kvs, h1, by omega, h3, h4, fun p hp => ?_, h6⟩
  obtain ⟨x, i, l, e, q1, q2, q3⟩ := h5 p hp
  exact ⟨x, i, l, e, q1, q2, by omega⟩
def addE (E : Str → Nat → List Nat) (x : Str) (i e : Nat) : Str → Nat → List Nat := fun y j => if y = x ∧ j = i ∧ e ∉ E x i then E x i ++ [e] else E y j
theorem addE_old {E : Str → Nat → List Nat} {x : Str} {i e : Nat} (h : e ∈ E x i) : addE E x i e = E := by
  funext y j
  unfold addE
  rw [if_neg]
  rintro ⟨_, _, h'⟩
  exact h' h
theorem addE_self {E : Str → Nat → List Nat} {x : Str} {i e : Nat} (h : e ∉ E x i) : addE E x i e x i = E x i ++ [e] := if_pos ⟨rfl, rfl, h⟩
theorem addE_ne {E : Str → Nat → List Nat} {x y : Str} {i j e : Nat} (h : ¬ (y = x ∧ j = i)) : addE E x i e y j = E y j := if_neg fun q => h ⟨q.1, q.2.1⟩
theorem inV_int {e : Nat} {ns : List Nat} : inV (.int (e : Int)) (ns.map vN) = decide (e ∈ ns) := by
  unfold inV
  rw [List.any_map]
  induction ns with
  | nil => rfl
  | cons y ns ih =>
    rw [List.any_cons, ih]
    show (((y : Int) == (e : Int)) || decide (e ∈ ns)) = decide (e ∈ y :: ns)
    by_cases h : y = e
    · subst h; simp
    · have h' : ¬ e = y := fun z => h z.symm
      have h2 : ((y : Int) == (e : Int)) = false := beq_eq_false_iff_ne.mpr (by omega)
      rw [h2]
      simp [h']
theorem flat_ints (ns : List Nat) : (ns.map vN).all flatV = true := by
  rw [List.all_eq_true]
  intro x hx
  obtain ⟨y, _, rfl⟩ := List.mem_map.mp hx
  rfl
section
variable {P : Program} {w : World} {K : PySem.W.Frag} {mg : Str → Option Value} {base : Heap} {f : Addr} {fd : FuncData}
def sp_add_end : Sp := fun vs H Q _ => ∃ (H0 : Hp) (d : Addr) (x : Str) (i e : Nat) (E : Str → Nat → List Nat) (m : Nat), vs = [.ref d, .str x, .int (i : Int), .int (e : Int)] ∧ EndsAt H0 H d E m ∧ Same H0 H ∧ m ≤ 100000 ∧
  ∀ H', EndsAt H0 H' d (addE E x i e) (if e ∈ E x i then m else m + 1) → Same H0 H' → (∀ b, H b ≠ none → H' b ≠ none) → Q (.bl (!decide (e ∈ E x i))) H'
theorem ok_add_end (F : Fun K "add_end" "add_end" st_add_end f fd) : FnOk P w K mg base CX0 1 f fd ["ends", "name", "begin", "end"] sp_add_end := by
  refine F.ok sc_add_end (fun vs H Q E h => ?_) (fun cdv A outer s H vs Q E hr h => ?_)
  · obtain ⟨H0, d, x, i, e, E, m, rfl, _⟩ := h
    rfl
  · obtain ⟨H0, d, x, i, e, E, m, rfl, hE, hs, hm, k⟩ := h
    have nd := sc_add_end.nd
    have hu := hu_of hr
    refine ⟨_, pss_cons (ps_set (i := 4) nd rfl (Or.inl rfl) (pe_bm PySem.F.plainAttrs_dict PySem.F.slot_dict_setdefault PySem.F.type_dict_setdefault (mt_setdT hu) (pv 0) (pa_cons (pe_tup (pa_cons (pv 1) (pa_cons (pv 2) pa_nil))) (pa_cons (pe_lst pa_nil) pa_nil))))
      (pss_cons (ps_if (pt_cmpR op_in_seq (pv 3) (pv 4) rfl) (pss_one (ps_ret pe_bl)) pss_nil)
      (pss_cons (ps_expr (pe_app (pv 4) (pv 3))) (pss_one (ps_ret pe_bl)))), ?_⟩
    obtain ⟨kvs, hd, hl, hk, hv, hp, hn⟩ := hE.ex
    refine ⟨_, rfl, .inr (.inr (.inl ⟨rfl, .inr ⟨kvs, hd⟩⟩)), _, rfl, _, rfl, by show 2 ≤ sizeLine; decide, fun T hT => ⟨by decide, fun L hL => ?_⟩⟩
    have sT : Same H (upd H T (.tup [.str x, .int (i : Int)])) := same_new hT
    have hLH : H L = none := sT.free hL
    have hLT : T ≠ L := ne_of_none (H := upd H T (.tup [.str x, .int (i : Int)])) upd_same hL
    have s2 : Same H (upd (upd H T (.tup [.str x, .int (i : Int)])) L (.lst [])) := sT.trans (same_new hL)
    refine ⟨d, T, kvs, eKey x i, .ref L, rfl, rfl, s2 _ _ hd, by rw [upd_ne hLT]; exact upd_same, small6 (by omega), fun v hvv => ?_, fun hnn => ?_⟩
    · -- the key was there
      obtain ⟨x', i', l, ep, hNL, hl0, hlen⟩ := hp _ (valV_memp hvv)
      obtain ⟨e1, e2⟩ := Prod.mk.inj ep
      obtain ⟨rfl, rfl⟩ := eKey_inj e1
      subst e2
      have hNL2 : NL _ l (E x i) := s2 _ _ hNL
      refine ⟨_, rfl, _, rfl, l, _, rfl, .inl (SqL.of hNL2), rfl, flat_ints _, _, rfl, ?_⟩
      rw [inV_int]
      by_cases he : e ∈ E x i
      · rw [decide_eq_true he]
        refine iteT ?_
        have q := k _ (by rw [addE_old he, if_pos he]; exact hE.mono s2) (hs.trans s2) (fun b hb e => by
          cases q : H b with
          | none => exact hb q
          | some o => rw [s2 _ _ q] at e; cases e)
        rw [decide_eq_true he] at q
        exact q
      · rw [decide_eq_false he]
        refine iteF ⟨_, rfl, .inl ⟨rfl, _, SqL.of hNL2⟩, _, rfl, l, _, _, rfl, rfl, hNL2, by rw [List.length_map]; exact small6 (by omega), ?_⟩
        rw [if_neg he] at k
        have q := k (upd (upd (upd H T (.tup [.str x, .int (i : Int)])) L (.lst [])) l (.lst ((E x i).map vN ++ [.int (e : Int)]))) ⟨hE.out, kvs, ?_, by omega, hk, hv, fun p hp' => ?_, fun y j hyj => ?_⟩
          (same_upd (hs.trans s2) hl0) (fun b hb e => by
            cases q : H b with
            | none => exact hb q
            | some o =>
              by_cases hbl : b = l
              · subst hbl; rw [upd_same] at e; cases e
              · rw [upd_ne hbl, s2 _ _ q] at e; cases e)
        · rw [decide_eq_false he] at q
          exact q
        · rw [upd_ne (ne_of (s2 _ _ hd) hNL2 (fun z => nomatch z))]
          exact s2 _ _ hd
        · obtain ⟨y, j, l', ep', hNL', hl0', hlen'⟩ := hp p hp'
          by_cases hyj : y = x ∧ j = i
          · obtain ⟨rfl, rfl⟩ := hyj
            have : l' = l := by
              have h1 := valV_ndmem hk (ep' ▸ hp')
              rw [hvv] at h1
              cases h1
              rfl
            subst this
            refine ⟨y, j, l', ep', ?_, hl0', ?_⟩
            · unfold NL
              rw [upd_same, addE_self he, List.map_append]
              rfl
            · rw [addE_self he, List.length_append, List.length_singleton]
              omega
          · refine ⟨y, j, l', ep', ?_, hl0', ?_⟩
            · have hll : l' ≠ l := fun z => by
                subst z
                have h1 := nd_inj (f := fun p : List Key × V => p.2) hv hp' (valV_memp hvv) (by rw [ep'])
                rw [ep'] at h1
                exact hyj (eKey_inj (Prod.mk.inj h1).1)
              unfold NL
              rw [upd_ne hll, addE_ne hyj]
              exact s2 _ _ hNL'
            · rw [addE_ne hyj]
              omega
        · rw [addE_ne (fun z => by
            obtain ⟨rfl, rfl⟩ := z
            rw [hvv] at hyj
            cases hyj)]
          exact hn y j hyj
    · -- a new key
      have hEx : E x i = [] := hn x i hnn
      have he : ¬ e ∈ E x i := by rw [hEx]; simp
      have hdL : d ≠ L := ne_of_none hd hLH
      have hLL : (upd (upd (upd H T (.tup [.str x, .int (i : Int)])) L (.lst [])) d (.dT (putK kvs (eKey x i) (.ref L)))) L = some (.lst []) := by
        rw [upd_ne (Ne.symm hdL)]
        exact upd_same
      refine ⟨_, rfl, _, rfl, L, _, rfl, .inl (SqL.of hLL), rfl, rfl, _, rfl, ?_⟩
      refine iteF ⟨_, rfl, .inl ⟨rfl, _, SqL.of hLL⟩, _, rfl, L, _, _, rfl, rfl, hLL, by decide, ?_⟩
      rw [putK_new _ hnn]
      have sHd : ∀ b, b ≠ d → b ≠ L → ∀ o, H b = some o → (upd (upd (upd (upd H T (.tup [.str x, .int (i : Int)])) L (.lst [])) d (.dT (kvs ++ [(eKey x i, .ref L)]))) L (.lst ([] ++ [V.int (e : Int)]))) b = some o := fun b h1 h2 o eo => by
        rw [upd_ne h2, upd_ne h1]
        exact s2 _ _ eo
      rw [if_neg he] at k
      have q := k (upd (upd (upd (upd H T (.tup [.str x, .int (i : Int)])) L (.lst [])) d (.dT (kvs ++ [(eKey x i, .ref L)]))) L (.lst ([] ++ [V.int (e : Int)]))) ⟨hE.out, kvs ++ [(eKey x i, .ref L)], ?_, ?_, ?_, ?_, fun p hp' => ?_, fun y j hyj => ?_⟩
        (fun b o eo => by
          have h1 : b ≠ d := ne_of_none eo hE.out
          have h2 : b ≠ L := ne_of_none (hs _ _ eo) hLH
          exact sHd b h1 h2 o (hs _ _ eo)) (fun b hb e => by
            by_cases h2 : b = L
            · subst h2; rw [upd_same] at e; cases e
            · by_cases h1 : b = d
              · subst h1; rw [upd_ne h2, upd_same] at e; cases e
              · cases q : H b with
                | none => exact hb q
                | some o => rw [sHd b h1 h2 o q] at e; cases e)
      · rw [decide_eq_false he] at q
        exact q
      · rw [upd_ne hdL]
        exact upd_same
      · rw [List.length_append, List.length_singleton]
        omega
      · rw [List.map_append]
        exact nd_snoc hk (valV_not hnn)
      · rw [List.map_append]
        refine nd_snoc hv fun hm' => ?_
        obtain ⟨p, hp', ep⟩ := List.mem_map.mp hm'
        obtain ⟨y, j, l', ep', hNL', _⟩ := hp p hp'
        rw [ep'] at ep
        cases ep
        rw [hNL'] at hLH
        cases hLH
      · rcases List.mem_append.mp hp' with hp1 | hp1
        · obtain ⟨y, j, l', ep', hNL', hl0', hlen'⟩ := hp p hp1
          have hyj : ¬ (y = x ∧ j = i) := fun z => by
            obtain ⟨rfl, rfl⟩ := z
            exact valV_not hnn (show eKey y j ∈ kvs.map (·.1) from List.mem_map.mpr ⟨p, hp1, by rw [ep']⟩)
          refine ⟨y, j, l', ep', ?_, hl0', ?_⟩
          · unfold NL
            rw [addE_ne hyj]
            exact sHd l' (ne_of hNL' hd (fun z => nomatch z)) (ne_of_none hNL' hLH) _ hNL'
          · rw [addE_ne hyj]
            omega
        · rw [List.mem_singleton.mp hp1]
          refine ⟨x, i, L, rfl, ?_, hs.free hLH, ?_⟩
          · unfold NL
            rw [upd_same, addE_self he, hEx]
            rfl
          · rw [addE_self he, hEx]
            simp
      · have h1 : ¬ (y = x ∧ j = i) := fun z => by
          obtain ⟨rfl, rfl⟩ := z
          have : eKey y j ∈ (kvs ++ [(eKey y j, V.ref L)]).map (·.1) := by simp
          exact valV_not hyj this
        rw [addE_ne h1]
        refine hn y j ?_
        cases hq : valV kvs (eKey y j) with
        | none => rfl
        | some v =>
          have : eKey y j ∈ (kvs ++ [(eKey x i, V.ref L)]).map (·.1) := by
            rw [List.map_append]
            exact List.mem_append_left _ (valV_in hq)
          exact absurd this (valV_not hyj)
end
end Rg
namespace Rg
open PySem PySem.Spec L2
theorem getFct {H : Hp} {L : List Fct} {vs : List V} {i : Nat} {v : V} (h : IsL H vs (L.map eFct)) (e : vs[i]? = some v) :
    ∃ f a, L[i]? = some f ∧ v = .ref a ∧ H a = some (.tup [.str f.1, .int (f.2.1 : Int), .int (f.2.2 : Int)]) := by
  obtain ⟨d, h1, h2⟩ := h.get e
  rw [List.getElem?_map] at h1
  cases q : L[i]? with
  | none => rw [q] at h1; cases h1
  | some r =>
    rw [q] at h1
    have ed : eFct r = d := Option.some.inj h1
    subst ed
    obtain ⟨a, xs, rfl, ha, hx⟩ := h2.tup_inv
    obtain ⟨v1, r1, rfl, b1, hx⟩ := hx.cons_inv
    obtain ⟨v2, r2, rfl, b2, hx⟩ := hx.cons_inv
    obtain ⟨v3, r3, rfl, b3, hx⟩ := hx.cons_inv
    rw [hx.nil_inv, b1.str_inv, b2.int_inv, b3.int_inv] at ha
    exact ⟨r, a, rfl, rfl, ha⟩
def stepE (n : Nat) (E : Str → Nat → List Nat) (f : Fct) : Str → Nat → List Nat := if f.2.1 ≤ f.2.2 ∧ f.2.2 ≤ n then addE E f.1 f.2.1 f.2.2 else E
def endsF (n : Nat) (L : List Fct) : Str → Nat → List Nat := L.foldl (stepE n) fun _ _ => []
section
variable {P : Program} {w : World} {K : PySem.W.Frag} {mg : Str → Option Value} {base : Heap} {f : Addr} {fd : FuncData}
def sp_ends_of : Sp := fun vs H Q _ => ∃ (a : Addr) (L : List Fct) (n : Nat), vs = [.ref a, .int (n : Int)] ∧ LD H a (L.map eFct) ∧ L.length ≤ 50000 ∧
  ∀ H' p, Same H H' → H p = none → EndsAt H H' p (endsF n L) L.length → Q (.ref p) H'
theorem ok_ends_of (F : Fun K "ends_of" "ends_of" st_ends_of f fd) (Ca : Cal P w K mg base 1 "add_end" ["ends", "name", "begin", "end"] sp_add_end) : FnOk P w K mg base CX0 2 f fd ["known", "many"] sp_ends_of := by
  refine F.ok sc_ends_of (fun vs H Q E h => ?_) (fun cdv A outer s H vs Q E hr h => ?_)
  · obtain ⟨a, L, n, rfl, _⟩ := h
    rfl
  · obtain ⟨a, L, n, rfl, ⟨vs, hv, hL⟩, hl, k⟩ := h
    have nd := sc_ends_of.nd
    refine ⟨_, pss_cons (ps_set (i := 2) nd rfl (Or.inl rfl) pe_dnewT)
      (pss_cons (ps_for PassesOwn.never rfl (pi_list (pv 0)) (pg_tup rfl (pgs_cons (pg_name (i := 3) nd rfl (Or.inl rfl)) (pgs_cons (pg_name (i := 4) nd rfl (Or.inl rfl)) (pgs_cons (pg_name (i := 5) nd rfl (Or.inl rfl)) pgs_nil))))
        (pss_one (ps_if (pt_chain3 op_le op_le op_le pe_int (pv 4) (pv 5) (pv 1)) (pss_one (ps_expr (pe_cal Ca hr rfl (pa_cons (pv 2) (pa_cons (pv 3) (pa_cons (pv 4) (pa_cons (pv 5) pa_nil))))))) pss_nil)))
      (pss_one (ps_ret (pv 2)))), ?_⟩
    have lv := hL.length
    rw [List.length_map] at lv
    intro p hp
    refine ⟨_, rfl, a, rfl, ⟨_, SqL.of (same_new hp _ _ hv)⟩, for_list (K := K) (a := a) (xs := vs) (fun i σ H2 => ∃ (o1 o2 o3 : Option V), σ = [some (.ref a), some (.int (n : Int)), some (.ref p), o1, o2, o3] ∧ Same H H2 ∧ EndsAt H H2 p (endsF n (L.take i)) i)
      ⟨none, none, none, rfl, same_new hp, hp, [], upd_same, Nat.le_refl _, List.nodup_nil, List.nodup_nil, (fun _ h => absurd h List.not_mem_nil), fun _ _ _ => rfl⟩ (fun i σ H2 _ ⟨_, _, _, _, s2, _⟩ => SqL.of (s2 _ _ hv)) ?_ ?_⟩
    · rintro i y σ H2 hi ⟨o1, o2, o3, rfl, s2, hE⟩
      have hil : i < vs.length := (List.getElem?_eq_some_iff.mp hi).1
      obtain ⟨g, b, hg, rfl, hb⟩ := getFct hL hi
      have et : endsF n (L.take (i + 1)) = stepE n (endsF n (L.take i)) g := by
        rw [List.take_add_one, hg]
        unfold endsF
        rw [List.foldl_append]
        rfl
      refine ⟨b, _, rfl, SqT.of (s2 _ _ hb), rfl, _, _, rfl, _, _, rfl, _, _, rfl, rfl, ?_⟩
      have skip : ¬ (g.2.1 ≤ g.2.2 ∧ g.2.2 ≤ n) → ∃ (o1' o2' o3' : Option V), [some (V.ref a), some (V.int (n : Int)), some (V.ref p), some (.str g.1), some (.int (g.2.1 : Int)), some (.int (g.2.2 : Int))] = [some (.ref a), some (.int (n : Int)), some (.ref p), o1', o2', o3'] ∧ Same H H2 ∧ EndsAt H H2 p (endsF n (L.take (i + 1))) (i + 1) := fun h => by
        refine ⟨_, _, _, rfl, s2, ?_⟩
        rw [et]
        unfold stepE
        rw [if_neg h]
        exact hE.up (Nat.le_succ i)
      refine ⟨_, rfl, _, _, rfl, rfl, _, rfl, ?_⟩
      rw [decide_eq_true (show (0 : Int) ≤ (g.2.1 : Int) by omega)]
      refine iteT ⟨_, rfl, _, _, rfl, rfl, _, rfl, ?_⟩
      by_cases h1 : g.2.1 ≤ g.2.2
      · rw [decide_eq_true (show (g.2.1 : Int) ≤ (g.2.2 : Int) by omega)]
        refine iteT ⟨_, rfl, _, _, rfl, rfl, _, rfl, ?_⟩
        by_cases h2 : g.2.2 ≤ n
        · rw [decide_eq_true (show (g.2.2 : Int) ≤ (n : Int) by omega)]
          refine iteT ⟨_, rfl, _, rfl, _, rfl, _, rfl, H, p, g.1, g.2.1, g.2.2, _, i, rfl, hE, s2, by omega, fun H3 hE3 s3 _ => ?_⟩
          refine ⟨_, _, _, rfl, s3, ?_⟩
          rw [et]
          unfold stepE
          rw [if_pos ⟨h1, h2⟩]
          exact hE3.up (by split <;> omega)
        · rw [decide_eq_false (show ¬ (g.2.2 : Int) ≤ (n : Int) by omega)]
          exact iteF (skip fun z => h2 z.2)
      · rw [decide_eq_false (show ¬ (g.2.1 : Int) ≤ (g.2.2 : Int) by omega)]
        exact iteF (iteF (skip fun z => h1 z.1))
    · rintro σ H2 ⟨o1, o2, o3, rfl, s2, hE⟩
      rw [lv, List.take_length] at hE
      exact ⟨_, rfl, k H2 p s2 hp hE⟩
end
end Rg
namespace Rg
open PySem PySem.Spec L2
/-- the heap but one object -/
def but (H : Hp) (p : Addr) : Hp := fun b => if b = p then none else H b
theorem but_none {H : Hp} {p : Addr} : but H p p = none := if_pos rfl
theorem but_ne {H : Hp} {p b : Addr} (h : b ≠ p) : but H p b = H b := if_neg h
theorem but_same {H : Hp} {p : Addr} : Same (but H p) H := fun b o e => by
  by_cases h : b = p
  · subst h; rw [but_none] at e; cases e
  · rw [but_ne h] at e; exact e
theorem same_but {H0 H : Hp} {p : Addr} (s : Same H0 H) (h : H0 p = none) : Same H0 (but H p) := fun b o e => by
  rw [but_ne (ne_of_none e h)]
  exact s _ _ e
theorem but_of {H : Hp} {p b : Addr} {o u : HO} (e : H b = some o) (hp : H p = some u) (d : o ≠ u) : but H p b = some o := by
  rw [but_ne (ne_of e hp d)]
  exact e
def behind (row : List Str) (E : Str → Nat → List Nat) (x : Str) (i : Nat) : List Nat := if isN x = true then E x i else if row[i]? = some x then [i + 1] else []
section
variable {P : Program} {w : World} {K : PySem.W.Frag} {mg : Str → Option Value} {base : Heap} {f : Addr} {fd : FuncData}
def sp_places_behind : Sp := fun vs H Q _ => ∃ (ra d : Addr) (x : Str) (i : Nat) (row : List Str) (H0 : Hp) (E : Str → Nat → List Nat) (m : Nat), vs = [.ref ra, .ref d, .str x, .int (i : Int)] ∧ WL H ra row ∧ EndsAt H0 H d E m ∧ x.length < 1000 ∧
  ∀ H' p, Same H H' → NL H' p (behind row E x i) → (H p = none ∨ ∃ kvs k, H d = some (.dT kvs) ∧ (k, V.ref p) ∈ kvs) → Q (.ref p) H'
theorem ok_places_behind (F : Fun K "places_behind" "places_behind" st_places_behind f fd) (B : Bl mg) (Ci : Cal P w K mg base 1 "is_name" ["part"] sp_is_name) : FnOk P w K mg base CX0 2 f fd ["row", "ends", "part", "place"] sp_places_behind := by
  refine F.ok sc_places_behind (fun vs H Q E h => ?_) (fun cdv A outer s H vs Q E hr h => ?_)
  · obtain ⟨ra, d, x, i, row, H0, E, m, rfl, _⟩ := h
    rfl
  · obtain ⟨ra, d, x, i, row, H0, E, m, rfl, hrow, hE, hx, k⟩ := h
    have nd := sc_places_behind.nd
    have hu := hu_of hr
    refine ⟨_, pss_cons (ps_if (pt_val (pe_cal Ci hr rfl (pa_cons (pv 2) pa_nil))) (pss_one (ps_ret (pe_dget2 hu (pv 1) (pe_tup (pa_cons (pv 2) (pa_cons (pv 3) pa_nil))) (pe_lst pa_nil) ⟨rfl, rfl, rfl, rfl⟩))) pss_nil)
      (pss_cons (ps_if (PW.pt (pw_and (pt_cmpR op_lt (pv 3) (pe_len B rfl (pv 0)) (nomark _)) (pw_and1 (pt_cmpR op_eq (pe_ix ix_list (pv 0) (pv 3) (fun _ _ => rfl)) (pv 2) (nomark _))))) (pss_one (ps_ret (pe_lst (pa_cons (pe_op op_add (pv 3) pe_int) pa_nil)))) pss_nil)
      (pss_one (ps_ret (pe_lst pa_nil)))), ?_⟩
    refine ⟨_, rfl, x, rfl, hx, _, rfl, ?_⟩
    cases en : isN x with
    | true =>
      have eb : behind row E x i = E x i := if_pos en
      rw [eb] at k
      obtain ⟨kvs, hd, hl, hk, hv, hp, hn⟩ := hE.ex
      refine iteT ⟨_, rfl, d, rfl, .inr ⟨kvs, .inl hd⟩, _, rfl, _, rfl, by show 2 ≤ sizeLine; decide, fun T hT => ⟨by decide, fun L hL => ?_⟩⟩
      have sT : Same H (upd H T (.tup [.str x, .int (i : Int)])) := same_new hT
      have hLT : T ≠ L := ne_of_none (H := upd H T (.tup [.str x, .int (i : Int)])) upd_same hL
      have s2 : Same H (upd (upd H T (.tup [.str x, .int (i : Int)])) L (.lst [])) := sT.trans (same_new hL)
      refine ⟨valV kvs (eKey x i), DGet.t (k := eKey x i) (s2 _ _ hd) (by rw [upd_ne hLT]; exact upd_same), ?_⟩
      cases e : valV kvs (eKey x i) with
      | none => exact k _ L s2 (by rw [hn x i e]; exact upd_same) (.inl (sT.free hL))
      | some v =>
        obtain ⟨x', i', l, ep, hNL, _⟩ := hp _ (valV_memp e)
        obtain ⟨e1, e2⟩ := Prod.mk.inj ep
        obtain ⟨rfl, rfl⟩ := eKey_inj e1
        subst e2
        exact k _ l s2 (s2 _ _ hNL) (.inr ⟨kvs, _, hd, valV_memp e⟩)
    | false =>
      have eb : behind row E x i = if row[i]? = some x then [i + 1] else [] := by unfold behind; rw [en]; exact if_neg (by decide)
      rw [eb] at k
      refine iteF ⟨_, rfl, _, rfl, ra, _, rfl, .inl (SqL.of hrow), _, _, rfl, rfl, _, rfl, ?_⟩
      rw [List.length_map]
      by_cases hi : i < row.length
      · rw [decide_eq_true (show (i : Int) < (row.length : Int) by omega)]
        refine iteT ⟨_, rfl, _, rfl, ra, _, _, _, rfl, rfl, SqL.of hrow, atI_nat (j := i) (v := .str row[i]) (by rw [List.getElem?_map, List.getElem?_eq_getElem hi]; rfl), _, rfl, rfl, _, rfl, ?_⟩
        by_cases hx2 : row[i] = x
        · rw [if_pos (by rw [List.getElem?_eq_getElem hi, hx2])] at k
          rw [decide_eq_true (by rw [hx2])]
          exact iteT ⟨_, rfl, _, _, rfl, rfl, by show 1 ≤ sizeLine; decide, fun p hp => k _ p (same_new hp) upd_same (.inl hp)⟩
        · rw [if_neg (by rw [List.getElem?_eq_getElem hi]; intro z; exact hx2 (Option.some.inj z))] at k
          rw [decide_eq_false (fun z => hx2 (V.str.inj z))]
          exact iteF ⟨by decide, fun p hp => k _ p (same_new hp) upd_same (.inl hp)⟩
      · rw [decide_eq_false (show ¬ (i : Int) < (row.length : Int) by omega)]
        rw [if_neg (by rw [List.getElem?_eq_none (by omega)]; exact fun z => nomatch z)] at k
        exact iteF (iteF ⟨by decide, fun p hp => k _ p (same_new hp) upd_same (.inl hp)⟩)
end
end Rg
namespace Rg
open PySem PySem.Spec L2
def cutOne (row : List Str) (E : Str → Nat → List Nat) (last : Nat) (x : Str) (c : List Nat) : List (List Nat) := ((behind row E x (c.getLastD 0)).filter fun p => decide (p ≤ last)).map fun p => c ++ [p]
def cutStep (row : List Str) (E : Str → Nat → List Nat) (last : Nat) (C : List (List Nat)) (x : Str) : List (List Nat) := C.flatMap (cutOne row E last x)
def cutsFrom (row : List Str) (E : Str → Nat → List Nat) (ps : List Str) (begin last : Nat) : List (List Nat) := ps.foldl (cutStep row E last) [[begin]]
theorem behind_len {row : List Str} {E : Str → Nat → List Nat} (h : ∀ x i, (E x i).length ≤ 8) (x : Str) (i : Nat) : (behind row E x i).length ≤ 8 := by
  unfold behind
  split
  · exact h x i
  · split <;> simp
theorem cutOne_len {row : List Str} {E : Str → Nat → List Nat} (h : ∀ x i, (E x i).length ≤ 8) (last : Nat) (x : Str) (c : List Nat) : (cutOne row E last x c).length ≤ 8 := by
  unfold cutOne
  rw [List.length_map]
  exact Nat.le_trans (List.length_filter_le _ _) (behind_len h _ _)
theorem cutStep_len {row : List Str} {E : Str → Nat → List Nat} (h : ∀ x i, (E x i).length ≤ 8) (last : Nat) (x : Str) : ∀ C : List (List Nat), (cutStep row E last C x).length ≤ 8 * C.length
  | [] => Nat.le_refl _
  | c :: C => by
    have h1 := cutStep_len (row := row) h last x C
    have h2 := cutOne_len (row := row) h last x c
    unfold cutStep at h1 ⊢
    rw [List.flatMap_cons, List.length_append, List.length_cons]
    omega
theorem cuts_len {row : List Str} {E : Str → Nat → List Nat} (h : ∀ x i, (E x i).length ≤ 8) (last : Nat) : ∀ (ps : List Str) (C : List (List Nat)), (ps.foldl (cutStep row E last) C).length ≤ 8 ^ ps.length * C.length
  | [], C => by simp
  | x :: ps, C => by
    rw [List.foldl_cons, List.length_cons, Nat.pow_succ]
    refine Nat.le_trans (cuts_len h last ps _) ?_
    rw [Nat.mul_assoc]
    exact Nat.mul_le_mul_left _ (cutStep_len h last x C)
theorem cutStep_ne {row : List Str} {E : Str → Nat → List Nat} {last : Nat} {x : Str} {C : List (List Nat)} : ∀ c ∈ cutStep row E last C x, c ≠ [] := by
  intro c hc
  obtain ⟨c', _, h⟩ := List.mem_flatMap.mp hc
  unfold cutOne at h
  obtain ⟨p, _, rfl⟩ := List.mem_map.mp h
  simp
theorem cuts_ne {row : List Str} {E : Str → Nat → List Nat} {last : Nat} : ∀ (ps : List Str) (C : List (List Nat)), (∀ c ∈ C, c ≠ []) → ∀ c ∈ ps.foldl (cutStep row E last) C, c ≠ []
  | [], _, h => h
  | x :: ps, C, h => by
    rw [List.foldl_cons]
    exact cuts_ne ps _ cutStep_ne
theorem cuts_lenC {row : List Str} {E : Str → Nat → List Nat} {last : Nat} : ∀ (ps : List Str) (C : List (List Nat)) (n : Nat), (∀ c ∈ C, c.length = n) → ∀ c ∈ ps.foldl (cutStep row E last) C, c.length = n + ps.length
  | [], _, n, h => h
  | x :: ps, C, n, h => by
    rw [List.foldl_cons]
    intro c hc
    have := cuts_lenC ps _ (n + 1) (fun c hc => by
      obtain ⟨c', h1, h2⟩ := List.mem_flatMap.mp hc
      unfold cutOne at h2
      obtain ⟨p, _, rfl⟩ := List.mem_map.mp h2
      rw [List.length_append, h c' h1]
      rfl) c hc
    rw [this, List.length_cons]
    omega
theorem last_at {c : List Nat} (h : c ≠ []) : atI (c.map vN) (-1) = some (vN (c.getLastD 0)) := by
  obtain ⟨l, x, rfl⟩ : ∃ l x, c = l ++ [x] := ⟨c.dropLast, c.getLast h, (List.dropLast_concat_getLast h).symm⟩
  rw [List.map_append]
  have e : (l ++ [x]).getLastD 0 = x := by simp
  rw [e]
  exact atI_last _ _
theorem getNats {H : Hp} {C : List (List Nat)} {vs : List V} {i : Nat} {v : V} (h : IsL H vs (C.map eNats)) (e : vs[i]? = some v) :
    ∃ c a, C[i]? = some c ∧ v = .ref a ∧ H a = some (.tup (c.map vN)) := by
  obtain ⟨d, h1, h2⟩ := h.get e
  rw [List.getElem?_map] at h1
  cases q : C[i]? with
  | none => rw [q] at h1; cases h1
  | some r =>
    rw [q] at h1
    have ed : eNats r = d := Option.some.inj h1
    subst ed
    obtain ⟨a, xs, rfl, ha, hx⟩ := h2.tup_inv
    rw [hx.ints_inv] at ha
    exact ⟨r, a, rfl, rfl, ha⟩
section
variable {P : Program} {w : World} {K : PySem.W.Frag} {mg : Str → Option Value} {base : Heap} {f : Addr} {fd : FuncData}
def sp_cuts_from : Sp := fun vs H Q _ => ∃ (ra d pa : Addr) (begin last : Nat) (row ps : List Str) (H0 : Hp) (E : Str → Nat → List Nat) (m : Nat), vs = [.ref ra, .ref d, .ref pa, .int (begin : Int), .int (last : Int)] ∧ WL H ra row ∧ EndsAt H0 H d E m ∧
  H pa = some (.tup (ps.map V.str)) ∧ ps.length ≤ 4 ∧ (∀ p ∈ ps, p.length < 1000) ∧ (∀ x i, (E x i).length ≤ 8) ∧
  ∀ H' p, Same H H' → H p = none → LD H' p ((cutsFrom row E ps begin last).map eNats) → Q (.ref p) H'
theorem ok_cuts_from (F : Fun K "cuts_from" "cuts_from" st_cuts_from f fd) (Cp : Cal P w K mg base 2 "places_behind" ["row", "ends", "part", "place"] sp_places_behind) : FnOk P w K mg base CX0 3 f fd ["row", "ends", "parts", "begin", "last"] sp_cuts_from := by
  refine F.ok sc_cuts_from (fun vs H Q E h => ?_) (fun cdv A outer s H vs Q E hr h => ?_)
  · obtain ⟨ra, d, pa, begin, last, row, ps, H0, E, m, rfl, _⟩ := h
    rfl
  · obtain ⟨ra, d, pa, begin, last, row, ps, H0, E, m, rfl, hrow, hE, hpa, hps, hsh, h8, k⟩ := h
    have nd := sc_cuts_from.nd
    refine ⟨_, pss_cons (ps_set (i := 5) nd rfl (Or.inl rfl) (pe_lst (pa_cons (pe_tup (pa_cons (pv 3) pa_nil)) pa_nil)))
      (pss_cons (ps_for PassesOwn.never rfl (pi_tup (pv 2)) (pg_name (i := 6) nd rfl (Or.inl rfl))
        (pss_cons (ps_set (i := 7) nd rfl (Or.inl rfl) (pe_lst pa_nil))
        (pss_cons (ps_for PassesOwn.never rfl (pi_list (pv 5)) (pg_name (i := 8) nd rfl (Or.inl rfl))
          (pss_one (ps_for PassesOwn.never rfl (pi_list (pe_cal Cp hr rfl (pa_cons (pv 0) (pa_cons (pv 1) (pa_cons (pv 6) (pa_cons (pe_ix ix_tup (pv 8) (pe_un un_neg pe_int) (fun _ _ => rfl)) pa_nil)))))) (pg_name (i := 9) nd rfl (Or.inl rfl))
            (pss_one (ps_if (pt_cmpR op_le (pv 9) (pv 4) (nomark _)) (pss_one (ps_expr (pe_app (pv 7) (pe_op op_catT (pv 8) (pe_tup (pa_cons (pv 9) pa_nil)))))) pss_nil)))))
        (pss_one (ps_set (i := 5) nd rfl (Or.inl rfl) (pv 7))))))
      (pss_one (ps_ret (pv 5)))), ?_⟩
    -- found = [(begin,)]
    refine ⟨_, rfl, by show 1 ≤ sizeLine; decide, fun T hT => ⟨by show 1 ≤ sizeLine; decide, fun pf0 hpf0 => ?_⟩⟩
    have sT : Same H (upd H T (.tup [.int (begin : Int)])) := same_new hT
    have hTp : T ≠ pf0 := ne_of_none (H := upd H T (.tup [.int (begin : Int)])) upd_same hpf0
    have s0 : Same H (upd (upd H T (.tup [.int (begin : Int)])) pf0 (.lst [.ref T])) := sT.trans (same_new hpf0)
    refine ⟨_, rfl, pa, rfl, ⟨_, SqT.of (s0 _ _ hpa)⟩, for_tup (K := K) (a := pa) (xs := ps.map V.str) (fun i σ H2 => ∃ (pf : Addr) (o1 o2 o3 o4 : Option V), σ = [some (.ref ra), some (.ref d), some (.ref pa), some (.int (begin : Int)), some (.int (last : Int)), some (.ref pf), o1, o2, o3, o4] ∧ Same H H2 ∧ H pf = none ∧ LD H2 pf ((cutsFrom row E (ps.take i) begin last).map eNats))
      ⟨pf0, none, none, none, none, rfl, s0, sT.free hpf0, [.ref T], upd_same, .cons (.tup (xs := [.int (begin : Int)]) (by rw [upd_ne hTp]; exact upd_same) (.cons (.int _) .nil)) .nil⟩ (fun i σ H2 _ ⟨_, _, _, _, _, _, s2, _⟩ => SqT.of (s2 _ _ hpa)) ?_ ?_⟩
    · rintro i y σ H2 hi ⟨pf, o1, o2, o3, o4, rfl, s2, hpf, us, hus, hU⟩
      rw [List.getElem?_map] at hi
      cases ei : ps[i]? with
      | none => rw [ei] at hi; cases hi
      | some x =>
        rw [ei] at hi
        cases hi
        have hxp : x ∈ ps := List.mem_of_getElem? ei
        have hil : i < ps.length := (List.getElem?_eq_some_iff.mp ei).1
        have et : cutsFrom row E (ps.take (i + 1)) begin last = cutStep row E last (cutsFrom row E (ps.take i) begin last) x := by
          rw [List.take_add_one, ei]
          unfold cutsFrom
          rw [List.foldl_append]
          rfl
        have hCl : (cutsFrom row E (ps.take i) begin last).length ≤ 4096 := by
          have h1 := cuts_len h8 (row := row) last (ps.take i) [[begin]]
          have h2 : (ps.take i).length ≤ 4 := by rw [List.length_take]; omega
          have h3 : 8 ^ (ps.take i).length ≤ 8 ^ 4 := Nat.pow_le_pow_right (by decide) h2
          unfold cutsFrom
          simp only [List.length_cons, List.length_nil] at h1
          omega
        have hCn : ∀ c ∈ cutsFrom row E (ps.take i) begin last, c ≠ [] := cuts_ne _ _ (by simp)
        have hCc : ∀ c ∈ cutsFrom row E (ps.take i) begin last, c.length = 1 + (ps.take i).length := cuts_lenC _ _ 1 (by simp)
        generalize hC : cutsFrom row E (ps.take i) begin last = C at *
        rw [et]
        -- longer = []
        refine ⟨by decide, fun pl hpl => ?_⟩
        have hplH : H pl = none := s2.free hpl
        have hpfl : pf ≠ pl := ne_of_none hus hpl
        have lu := hU.length
        rw [List.length_map] at lu
        have s3 : Same H2 (upd H2 pl (.lst [])) := same_new hpl
        refine ⟨_, rfl, pf, rfl, ⟨us, SqL.of (s3 _ _ hus)⟩, for_list (K := K) (a := pf) (xs := us) (fun j σ H3 => ∃ (o3 o4 : Option V), σ = [some (.ref ra), some (.ref d), some (.ref pa), some (.int (begin : Int)), some (.int (last : Int)), some (.ref pf), some (.str x), some (.ref pl), o3, o4] ∧ Same H2 H3 ∧ LD H3 pl ((cutStep row E last (C.take j) x).map eNats))
          ⟨o3, o4, rfl, s3, [], upd_same, .nil⟩ (fun j σ H3 _ ⟨_, _, _, s, _⟩ => SqL.of (s _ _ hus)) ?_ ?_⟩
        · rintro j y σ H3 hj ⟨o3, o4, rfl, s23, ws, hws, hW⟩
          have hjl : j < us.length := (List.getElem?_eq_some_iff.mp hj).1
          obtain ⟨c, ca, hc, rfl, hca⟩ := getNats hU hj
          have hcC : c ∈ C := List.mem_of_getElem? hc
          have sH3 : Same H H3 := s2.trans s23
          have ec : cutStep row E last (C.take (j + 1)) x = cutStep row E last (C.take j) x ++ cutOne row E last x c := by
            rw [List.take_add_one, hc]
            unfold cutStep
            rw [List.flatMap_append]
            simp
          have hwl : (cutStep row E last (C.take j) x).length ≤ 8 * 4096 := by
            have h1 := cutStep_len h8 (row := row) last x (C.take j)
            have h2 : (C.take j).length ≤ C.length := by rw [List.length_take]; omega
            omega
          have lw := hW.length
          rw [List.length_map] at lw
          refine ⟨_, rfl, _, rfl, _, rfl, _, rfl, _, rfl, ca, _, -1, _, rfl, rfl, SqT.of (s23 _ _ hca), last_at (hCn c hcC), ra, d, x, c.getLastD 0, row, H0, E, m, rfl, sH3 _ _ hrow, hE.mono sH3, hsh x hxp, fun H4 q s4 hNL hq => ?_⟩
          -- q is not longer
          have hqpl : q ≠ pl := by
            rintro rfl
            rcases hq with hq | ⟨kvs, kk, hd', hm'⟩
            · rw [hq] at hws; cases hws
            · obtain ⟨kvs', hd, _, _, _, hp', _⟩ := hE.ex
              have e1 := sH3 _ _ hd
              rw [hd'] at e1
              cases e1
              obtain ⟨x', i', l, ep, hNL', _⟩ := hp' _ hm'
              have : V.ref q = V.ref l := congrArg Prod.snd ep
              cases this
              rw [hNL'] at hplH
              cases hplH
          have hws4 : H4 pl = some (.lst ws) := s4 _ _ hws
          have hNLb : but H4 pl q = some (.lst ((behind row E x (c.getLastD 0)).map vN)) := by rw [but_ne hqpl]; exact hNL
          have hcab : but H4 pl ca = some (.tup (c.map vN)) := but_of (s4 _ _ (s23 _ _ hca)) hws4 (fun z => nomatch z)
          have s2b : Same H2 (but H4 pl) := same_but (s23.trans s4) hpl
          have hbl := behind_len h8 (row := row) x (c.getLastD 0)
          generalize hbs : behind row E x (c.getLastD 0) = bs at *
          refine ⟨q, rfl, ⟨_, SqL.of hNL⟩, for_list (K := K) (a := q) (xs := bs.map vN) (fun t σ H5 => ∃ o4 : Option V, σ = [some (.ref ra), some (.ref d), some (.ref pa), some (.int (begin : Int)), some (.int (last : Int)), some (.ref pf), some (.str x), some (.ref pl), some (.ref ca), o4] ∧ Same (but H4 pl) H5 ∧
              LD H5 pl ((cutStep row E last (C.take j) x ++ ((bs.take t).filter fun p => decide (p ≤ last)).map fun p => c ++ [p]).map eNats))
            ⟨o4, rfl, but_same, ws, hws4, by simpa using hW.mono s4⟩ (fun t σ H5 _ ⟨_, _, s5, _⟩ => SqL.of (s5 _ _ hNLb)) ?_ ?_⟩
          · rintro t y σ H5 ht ⟨o4, rfl, s5, zs, hzs, hZ⟩
            rw [List.getElem?_map] at ht
            cases et2 : bs[t]? with
            | none => rw [et2] at ht; cases ht
            | some p =>
              rw [et2] at ht
              cases ht
              have etk : bs.take (t + 1) = bs.take t ++ [p] := by rw [List.take_add_one, et2]; rfl
              have lz := hZ.length
              have hfl : ((bs.take t).filter fun p => decide (p ≤ last)).length ≤ 8 := Nat.le_trans (List.length_filter_le _ _) (Nat.le_trans (by rw [List.length_take]; omega : (bs.take t).length ≤ bs.length) hbl)
              rw [List.length_map, List.length_append, List.length_map] at lz
              refine ⟨_, rfl, _, rfl, _, _, rfl, rfl, _, rfl, ?_⟩
              by_cases hpl2 : p ≤ last
              · rw [decide_eq_true (show (p : Int) ≤ (last : Int) by omega)]
                refine iteT ⟨_, rfl, .inl ⟨rfl, _, SqL.of hzs⟩, _, rfl, _, rfl, by show 1 ≤ sizeLine; decide, fun T2 hT2 => ?_⟩
                have sT2 : Same H5 (upd H5 T2 (.tup [.int (p : Int)])) := same_new hT2
                have hcl : (c.map vN).length + 1 ≤ sizeLine := by
                  rw [List.length_map, hCc c hcC]
                  have h2 : (ps.take i).length ≤ 4 := by rw [List.length_take]; omega
                  exact small6' (by omega)
                refine ⟨ca, T2, c.map vN, [.int (p : Int)], rfl, rfl, SqT.of (sT2 _ _ (s5 _ _ hcab)), SqT.of upd_same, by simpa using hCn c hcC, hcl, fun z => (nomatch z), fun _ T3 hT3 => ?_⟩
                have sT3 : Same H5 (upd (upd H5 T2 (.tup [.int (p : Int)])) T3 (.tup (c.map vN ++ [.int (p : Int)]))) := sT2.trans (same_new hT3)
                have hT3l : T3 ≠ pl := fun z => by subst z; rw [sT2 _ _ hzs] at hT3; cases hT3
                refine ⟨pl, zs, _, rfl, rfl, sT3 _ _ hzs, small6 (by omega), ?_⟩
                have sb : Same (but H4 pl) (upd (upd (upd H5 T2 (.tup [.int (p : Int)])) T3 (.tup (c.map vN ++ [.int (p : Int)]))) pl (.lst (zs ++ [.ref T3]))) := same_upd (s5.trans sT3) but_none
                refine ⟨_, rfl, sb, zs ++ [.ref T3], upd_same, ?_⟩
                have tS : TuS H5 (upd (upd (upd H5 T2 (.tup [.int (p : Int)])) T3 (.tup (c.map vN ++ [.int (p : Int)]))) pl (.lst (zs ++ [.ref T3]))) := (TuS.of sT3).trans (TuS.lst (sT3 _ _ hzs))
                rw [etk, List.filter_append, List.filter_cons_of_pos (by simpa using hpl2), List.filter_nil]
                rw [show ∀ (A : List (List Nat)) (B : List Nat), (A ++ (B ++ [p]).map fun p => c ++ [p]).map eNats = (A ++ B.map fun p => c ++ [p]).map eNats ++ [eNats (c ++ [p])] from fun A B => by simp]
                refine (hZ.monoT tS).append (.cons (.tup (xs := (c ++ [p]).map vN) ?_ (IsL.ints _)) .nil)
                rw [upd_ne hT3l, upd_same, List.map_append]
                rfl
              · rw [decide_eq_false (show ¬ (p : Int) ≤ (last : Int) by omega)]
                refine iteF ⟨_, rfl, s5, zs, hzs, ?_⟩
                rw [etk, List.filter_append, List.filter_cons_of_neg (by simpa using hpl2)]
                simpa using hZ
          · rintro σ H5 ⟨o4, rfl, s5, hL⟩
            refine ⟨_, _, rfl, s2b.trans s5, ?_⟩
            rw [ec]
            unfold cutOne
            rw [hbs]
            rw [List.length_map, List.take_length] at hL
            exact hL
        · rintro σ H3 ⟨o3, o4, rfl, s23, hL⟩
          refine ⟨_, rfl, pl, _, _, _, _, rfl, s2.trans s23, hplH, ?_⟩
          rw [lu, List.take_length] at hL
          exact hL
    · rintro σ H2 ⟨pf, o1, o2, o3, o4, rfl, s2, hpf, hL⟩
      rw [List.length_map, List.take_length] at hL
      exact ⟨_, rfl, k H2 pf s2 hpf hL⟩
end
end Rg
namespace Rg
open PySem PySem.Spec L2
def insN (l : List Nat) (b : Nat) : List Nat := if b ∈ l then l else l ++ [b]
def covOne (row : List Str) (E : Str → Nat → List Nat) (x : Str) (acc : List Nat) (c : Nat) : List Nat := (behind row E x c).foldl insN acc
def covStep (row : List Str) (E : Str → Nat → List Nat) (C : List Nat) (x : Str) : List Nat := C.foldl (covOne row E x) []
def covS (row : List Str) (E : Str → Nat → List Nat) (ps : List Str) (b : Nat) : List Nat := ps.foldl (covStep row E) [b]
theorem insN_len (l : List Nat) (b : Nat) : (insN l b).length ≤ l.length + 1 := by
  unfold insN
  split
  · omega
  · simp
theorem insF_len : ∀ (bs l : List Nat), (bs.foldl insN l).length ≤ l.length + bs.length
  | [], l => Nat.le_refl _
  | b :: bs, l => by
    have h1 := insF_len bs (insN l b)
    have h2 := insN_len l b
    rw [List.foldl_cons, List.length_cons]
    omega
theorem covF_len {row : List Str} {E : Str → Nat → List Nat} (h : ∀ x i, (E x i).length ≤ 8) (x : Str) : ∀ (C acc : List Nat), (C.foldl (covOne row E x) acc).length ≤ acc.length + 8 * C.length
  | [], acc => Nat.le_refl _
  | c :: C, acc => by
    have h1 := covF_len (row := row) h x C (covOne row E x acc c)
    have h2 : (covOne row E x acc c).length ≤ acc.length + 8 := Nat.le_trans (insF_len _ _) (Nat.add_le_add_left (behind_len h x c) _)
    rw [List.foldl_cons, List.length_cons]
    omega
theorem covS_len {row : List Str} {E : Str → Nat → List Nat} (h : ∀ x i, (E x i).length ≤ 8) : ∀ (ps : List Str) (C : List Nat), (ps.foldl (covStep row E) C).length ≤ 8 ^ ps.length * C.length
  | [], C => by simp
  | x :: ps, C => by
    rw [List.foldl_cons, List.length_cons, Nat.pow_succ]
    refine Nat.le_trans (covS_len h ps _) ?_
    rw [Nat.mul_assoc]
    have := covF_len (row := row) h x C []
    refine Nat.mul_le_mul_left _ ?_
    unfold covStep
    simpa using this
theorem mem_insF {y : Nat} : ∀ {bs l : List Nat}, y ∈ bs.foldl insN l ↔ y ∈ l ∨ y ∈ bs
  | [], l => by simp
  | b :: bs, l => by
    rw [List.foldl_cons, mem_insF]
    unfold insN
    split
    · rename_i h
      constructor
      · rintro (h1 | h1)
        · exact .inl h1
        · exact .inr (List.mem_cons_of_mem _ h1)
      · rintro (h1 | h1)
        · exact .inl h1
        · rcases List.mem_cons.mp h1 with e | h1
          · subst e; exact .inl h
          · exact .inr h1
    · rw [List.mem_append, List.mem_singleton, List.mem_cons, or_assoc]
theorem mem_covF {row : List Str} {E : Str → Nat → List Nat} {x : Str} {y : Nat} : ∀ {C acc : List Nat}, y ∈ C.foldl (covOne row E x) acc ↔ y ∈ acc ∨ ∃ c ∈ C, y ∈ behind row E x c
  | [], acc => by simp
  | c :: C, acc => by
    rw [List.foldl_cons, mem_covF]
    unfold covOne
    rw [mem_insF]
    constructor
    · rintro ((h | h) | ⟨c', h1, h2⟩)
      · exact .inl h
      · exact .inr ⟨c, List.mem_cons_self, h⟩
      · exact .inr ⟨c', List.mem_cons_of_mem _ h1, h2⟩
    · rintro (h | ⟨c', h1, h2⟩)
      · exact .inl (.inl h)
      · rcases List.mem_cons.mp h1 with e | h1
        · subst e; exact .inl (.inr h2)
        · exact .inr ⟨c', h1, h2⟩
theorem mem_covStep {row : List Str} {E : Str → Nat → List Nat} {x : Str} {y : Nat} {C : List Nat} : y ∈ covStep row E C x ↔ ∃ c ∈ C, y ∈ behind row E x c := by
  unfold covStep
  rw [mem_covF]
  simp
/-- a dict of places at p, each with a tuple -/
def CovD (H : Hp) (p : Addr) (L : List Nat) (m : Nat) : Prop := ∃ kvs : List (Key × V), H p = some (.dK kvs) ∧ kvs.map (·.1) = L.map (fun n : Nat => (Sum.inl (n : Int) : Key)) ∧
  ∀ q ∈ kvs, ∃ a xs, q.2 = .ref a ∧ H a = some (.tup xs) ∧ xs ≠ [] ∧ xs.length ≤ m
theorem key_mem {L : List Nat} {b : Nat} : (Sum.inl (b : Int) : Key) ∈ L.map (fun n : Nat => (Sum.inl (n : Int) : Key)) ↔ b ∈ L := by
  rw [List.mem_map]
  constructor
  · rintro ⟨n, h, e⟩
    have : n = b := by
      have := Sum.inl.inj e
      omega
    exact this ▸ h
  · exact fun h => ⟨b, h, rfl⟩
section
variable {P : Program} {w : World} {K : PySem.W.Frag} {mg : Str → Option Value} {base : Heap} {f : Addr} {fd : FuncData}
def sp_covered : Sp := fun vs H Q _ => ∃ (ra d pa : Addr) (begin : Nat) (row ps : List Str) (H0 : Hp) (E : Str → Nat → List Nat) (m : Nat), vs = [.ref ra, .ref d, .ref pa, .int (begin : Int)] ∧ WL H ra row ∧ EndsAt H0 H d E m ∧
  H pa = some (.tup (ps.map V.str)) ∧ ps.length ≤ 4 ∧ (∀ p ∈ ps, p.length < 1000) ∧ (∀ x i, (E x i).length ≤ 8) ∧
  ∀ H' p, Same H H' → H p = none → CovD H' p (covS row E ps begin) 5 → Q (.ref p) H'
theorem ok_covered (F : Fun K "covered" "covered" st_covered f fd) (Cp : Cal P w K mg base 2 "places_behind" ["row", "ends", "part", "place"] sp_places_behind) : FnOk P w K mg base CX0 3 f fd ["row", "ends", "parts", "begin"] sp_covered := by
  refine F.ok sc_covered (fun vs H Q E h => ?_) (fun cdv A outer s H vs Q E hr h => ?_)
  · obtain ⟨ra, d, pa, begin, row, ps, H0, E, m, rfl, _⟩ := h
    rfl
  · obtain ⟨ra, d, pa, begin, row, ps, H0, E, m, rfl, hrow, hE, hpa, hps, hsh, h8, k⟩ := h
    have nd := sc_covered.nd
    have hu := hu_of hr
    refine ⟨_, pss_cons (ps_set (i := 4) nd rfl (Or.inl rfl) (pe_disp (pps_cons (pv 3) (pe_tup (pa_cons (pv 3) pa_nil)) pps_nil) rfl rfl (by decide) (by decide)))
      (pss_cons (ps_for PassesOwn.never rfl (pi_tup (pv 2)) (pg_name (i := 5) nd rfl (Or.inl rfl))
        (pss_cons (ps_set (i := 6) nd rfl (Or.inl rfl) pe_dnewK)
        (pss_cons (ps_for PassesOwn.never rfl (pi_keys (pe_frz (pv 4))) (pg_name (i := 7) nd rfl (Or.inl rfl))
          (pss_one (ps_for PassesOwn.never rfl (pi_list (pe_cal Cp hr rfl (pa_cons (pv 0) (pa_cons (pv 1) (pa_cons (pv 5) (pa_cons (pv 7) pa_nil)))))) (pg_name (i := 8) nd rfl (Or.inl rfl))
            (pss_one (ps_if (pt_cmp (pc_dnotin hu (pv 8) (pv 6))) (pss_one (ps_dput hu (pv 6) (pv 8) (pe_op op_catT (pe_dget hu (pv 4) (pv 7) (fun _ _ => rfl)) (pe_tup (pa_cons (pv 8) pa_nil))) rfl)) pss_nil)))))
        (pss_one (ps_set (i := 4) nd rfl (Or.inl rfl) (pv 6))))))
      (pss_one (ps_ret (pv 4)))), ?_⟩
    intro pf0 hpf0
    refine ⟨_, rfl, _, rfl, by show 1 ≤ sizeLine; decide, fun T hT => ⟨?_, [(.inl (begin : Int), .ref T)], rfl, by show 1 ≤ 15; decide, ?_⟩⟩
    · rw [upd_ne (Ne.symm (fun z => by subst z; rw [upd_same] at hT; cases hT))]
      exact upd_same
    have hTp : T ≠ pf0 := fun z => by subst z; rw [upd_same] at hT; cases hT
    have s0 : Same H (upd (upd (upd H pf0 (.dK [])) T (.tup [.int (begin : Int)])) pf0 (.dK (mergeK [] [(.inl (begin : Int), .ref T)]))) := same_upd ((same_new hpf0).trans (same_new hT)) hpf0
    refine ⟨_, rfl, pa, rfl, ⟨_, SqT.of (s0 _ _ hpa)⟩, for_tup (K := K) (a := pa) (xs := ps.map V.str) (fun i σ H2 => ∃ (pf : Addr) (o1 o2 o3 o4 : Option V), σ = [some (.ref ra), some (.ref d), some (.ref pa), some (.int (begin : Int)), some (.ref pf), o1, o2, o3, o4] ∧ Same H H2 ∧ H pf = none ∧ CovD H2 pf (covS row E (ps.take i) begin) (i + 1))
      ⟨pf0, none, none, none, none, rfl, s0, hpf0, _, upd_same, rfl, fun q hq => ?_⟩ (fun i σ H2 _ ⟨_, _, _, _, _, _, s2, _⟩ => SqT.of (s2 _ _ hpa)) ?_ ?_⟩
    · have : q = (.inl (begin : Int), .ref T) := by simpa [mergeK, putK] using hq
      subst this
      exact ⟨T, _, rfl, by rw [upd_ne hTp]; exact upd_same, by simp, by simp⟩
    · rintro i y σ H2 hi ⟨pf, o1, o2, o3, o4, rfl, s2, hpf, kvs, hkd, hkk, hkv⟩
      rw [List.getElem?_map] at hi
      cases ei : ps[i]? with
      | none => rw [ei] at hi; cases hi
      | some x =>
        rw [ei] at hi
        cases hi
        have hxp : x ∈ ps := List.mem_of_getElem? ei
        have hil : i < ps.length := (List.getElem?_eq_some_iff.mp ei).1
        have et : covS row E (ps.take (i + 1)) begin = covStep row E (covS row E (ps.take i) begin) x := by
          rw [List.take_add_one, ei]
          unfold covS
          rw [List.foldl_append]
          rfl
        have hCl : (covS row E (ps.take i) begin).length ≤ 4096 := by
          have h1 := covS_len h8 (row := row) (ps.take i) [begin]
          have h2 : (ps.take i).length ≤ 4 := by rw [List.length_take]; omega
          have h3 : 8 ^ (ps.take i).length ≤ 8 ^ 4 := Nat.pow_le_pow_right (by decide) h2
          unfold covS
          simp only [List.length_cons, List.length_nil] at h1
          omega
        generalize hC : covS row E (ps.take i) begin = C at *
        rw [et]
        have lk : kvs.length = C.length := by
          have := congrArg List.length hkk
          rw [List.length_map, List.length_map] at this
          exact this
        intro pl hpl
        have hplH : H pl = none := s2.free hpl
        have hpfl : pf ≠ pl := ne_of_none hkd hpl
        have hkd3 : (upd H2 pl (.dK [])) pf = some (.dK kvs) := by rw [upd_ne hpfl]; exact hkd
        refine ⟨_, rfl, pf, _, rfl, hkd3, True.intro, fun od => ⟨pf, od, rfl, .inl ⟨kvs, upd_same, ?_⟩⟩⟩
        generalize hH3 : upd (upd H2 pl (.dK [])) pf (.frz od (.dK kvs)) = H3
        have s3 : Same H H3 := by rw [← hH3]; exact same_upd (same_upd s2 hplH) hpf
        have h3f : H3 pf = some (.frz od (.dK kvs)) := by rw [← hH3]; exact upd_same
        have h3l : H3 pl = some (.dK []) := by rw [← hH3, upd_ne (Ne.symm hpfl)]; exact upd_same
        have t3 : TuS H2 H3 := by rw [← hH3]; exact (TuS.new hpl).trans (TuS.wr hkd3 fun _ z => nomatch z)
        have hFb : but H3 pl pf = some (.frz od (.dK kvs)) := but_of h3f h3l (fun z => nomatch z)
        have sHb : Same H (but H3 pl) := same_but s3 hplH
        refine for_it walk_keys (fun j σ H4 => ∃ (o3 o4 : Option V), σ = [some (.ref ra), some (.ref d), some (.ref pa), some (.int (begin : Int)), some (.ref pf), some (.str x), some (.ref pl), o3, o4] ∧ Same (but H3 pl) H4 ∧ CovD H4 pl ((C.take j).foldl (covOne row E x) []) (i + 2))
          ⟨o3, o4, rfl, but_same, [], h3l, rfl, fun _ h => absurd h List.not_mem_nil⟩ (fun j σ H4 _ ⟨_, _, _, s, _⟩ => s _ _ hFb) ?_ ?_
        · rintro j y σ H4 H4' hjl ⟨o3, o4, rfl, s34, ws, hws, hwk, hwv⟩ ⟨rfl, kk, v, hkj, rfl⟩
          have hcj : ∃ c, C[j]? = some c ∧ kk = .inl (c : Int) := by
            have h1 : (kvs.map (·.1))[j]? = some kk := by rw [List.getElem?_map, hkj]; rfl
            rw [hkk, List.getElem?_map] at h1
            cases q : C[j]? with
            | none => rw [q] at h1; cases h1
            | some c => rw [q] at h1; exact ⟨c, rfl, (Option.some.inj h1).symm⟩
          obtain ⟨c, hc, rfl⟩ := hcj
          have ec : (C.take (j + 1)).foldl (covOne row E x) [] = covOne row E x ((C.take j).foldl (covOne row E x) []) c := by
            rw [List.take_add_one, hc, List.foldl_append]
            rfl
          have hal : ((C.take j).foldl (covOne row E x) []).length ≤ 8 * 4096 := by
            have h1 := covF_len (row := row) h8 x (C.take j) []
            have h2 : (C.take j).length ≤ C.length := by rw [List.length_take]; omega
            simp only [List.length_nil] at h1
            omega
          obtain ⟨v2, hv2⟩ : ∃ v2, valV kvs (.inl (c : Int)) = some v2 := by
            cases hq2 : valV kvs (.inl (c : Int)) with
            | none => exact absurd (List.mem_map.mpr ⟨_, List.mem_of_getElem? hkj, rfl⟩) (valV_not hq2)
            | some v'' => exact ⟨_, rfl⟩
          obtain ⟨va, vxs, ev2, hva, hvne, hvl⟩ := hkv _ (valV_memp hv2)
          have ev2' : v2 = .ref va := ev2
          subst ev2'
          have hvaB : but H3 pl va = some (.tup vxs) := but_of (t3 _ _ hva) h3l (fun z => nomatch z)
          have sH4 : Same H H4' := sHb.trans s34
          refine ⟨_, rfl, _, rfl, _, rfl, _, rfl, ra, d, x, c, row, H0, E, m, rfl, sH4 _ _ hrow, hE.mono sH4, hsh x hxp, fun H5 q s5 hNL hq => ?_⟩
          have hws5 : H5 pl = some (.dK ws) := s5 _ _ hws
          have hNLb : but H5 pl q = some (.lst ((behind row E x c).map vN)) := but_of hNL hws5 (fun z => nomatch z)
          have hFb5 : but H5 pl pf = some (.frz od (.dK kvs)) := but_of (s5 _ _ (s34 _ _ hFb)) hws5 (fun z => nomatch z)
          have hvb5 : but H5 pl va = some (.tup vxs) := but_of (s5 _ _ (s34 _ _ hvaB)) hws5 (fun z => nomatch z)
          have s35 : Same (but H3 pl) (but H5 pl) := same_but (s34.trans s5) but_none
          have hbl := behind_len h8 (row := row) x c
          have ecc : ∀ acc, covOne row E x acc c = (behind row E x c).foldl insN acc := fun _ => rfl
          rw [ec, ecc]
          generalize hbs : behind row E x c = bs at *
          generalize hacc : (C.take j).foldl (covOne row E x) [] = acc at *
          refine ⟨q, rfl, ⟨_, SqL.of hNL⟩, for_list (K := K) (a := q) (xs := bs.map vN) (fun t σ H6 => ∃ o4 : Option V, σ = [some (.ref ra), some (.ref d), some (.ref pa), some (.int (begin : Int)), some (.ref pf), some (.str x), some (.ref pl), some (.int (c : Int)), o4] ∧ Same (but H5 pl) H6 ∧ CovD H6 pl ((bs.take t).foldl insN acc) (i + 2))
            ⟨o4, rfl, but_same, ws, hws5, hwk, fun q hq => let ⟨a, xs, e1, e2, e3⟩ := hwv q hq; ⟨a, xs, e1, s5 _ _ e2, e3⟩⟩ (fun t σ H6 _ ⟨_, _, s6, _⟩ => SqL.of (s6 _ _ hNLb)) ?_ ?_⟩
          · rintro t y σ H6 ht ⟨o4, rfl, s6, zs, hzs, hzk, hzv⟩
            rw [List.getElem?_map] at ht
            cases et2 : bs[t]? with
            | none => rw [et2] at ht; cases ht
            | some b =>
              rw [et2] at ht
              cases ht
              have etk : (bs.take (t + 1)).foldl insN acc = insN ((bs.take t).foldl insN acc) b := by rw [List.take_add_one, et2, List.foldl_append]; rfl
              rw [etk]
              have hcl := insF_len (bs.take t) acc
              have hct : (bs.take t).length ≤ bs.length := by rw [List.length_take]; omega
              generalize hcur : (bs.take t).foldl insN acc = cur at *
              refine ⟨_, rfl, _, rfl, pl, _, rfl, DGet.k (k := .inl (b : Int)) hzs, _, rfl, ?_⟩
              cases ev : valV zs (.inl (b : Int)) with
              | some v' =>
                refine iteF ⟨_, rfl, s6, zs, hzs, ?_, hzv⟩
                have : b ∈ cur := key_mem.mp (hzk ▸ valV_in ev)
                unfold insN
                rw [if_pos this]
                exact hzk
              | none =>
                have hnb : b ∉ cur := fun hb => valV_not ev (hzk ▸ key_mem.mpr hb)
                refine iteT ⟨_, rfl, _, rfl, pf, .ref va, rfl, .inl ⟨kvs, .inl (c : Int), .inr ⟨od, s6 _ _ hFb5⟩, rfl, hv2.symm⟩, _, rfl, by show 1 ≤ sizeLine; decide, fun T2 hT2 => ?_⟩
                have sT2 : Same H6 (upd H6 T2 (.tup [.int (b : Int)])) := same_new hT2
                refine ⟨va, T2, vxs, [.int (b : Int)], rfl, rfl, SqT.of (sT2 _ _ (s6 _ _ hvb5)), SqT.of upd_same, hvne, small6' (by simp; omega), fun z => (nomatch z), fun _ T3 hT3 => ?_⟩
                have sT3 : Same H6 (upd (upd H6 T2 (.tup [.int (b : Int)])) T3 (.tup (vxs ++ [.int (b : Int)]))) := sT2.trans (same_new hT3)
                have hT3l : T3 ≠ pl := fun z => by subst z; rw [sT2 _ _ hzs] at hT3; cases hT3
                have lz : zs.length = cur.length := by
                  have := congrArg List.length hzk
                  rw [List.length_map, List.length_map] at this
                  exact this
                refine ⟨_, rfl, _, rfl, pl, _, rfl, DPut.k (k := .inl (b : Int)) (sT3 _ _ hzs) (small6 (by omega)), ?_⟩
                have sb : Same (but H5 pl) (upd (upd (upd H6 T2 (.tup [.int (b : Int)])) T3 (.tup (vxs ++ [.int (b : Int)]))) pl (.dK (putK zs (.inl (b : Int)) (.ref T3)))) := same_upd (s6.trans sT3) but_none
                rw [putK_new _ ev] at sb ⊢
                refine ⟨_, rfl, sb, _, upd_same, ?_, fun q hq => ?_⟩
                · unfold insN
                  rw [if_neg hnb, List.map_append, List.map_append, hzk]
                  rfl
                · rcases List.mem_append.mp hq with hq | hq
                  · obtain ⟨a, xs, e1, e2, e3⟩ := hzv q hq
                    refine ⟨a, xs, e1, ?_, e3⟩
                    rw [upd_ne (ne_of e2 hzs (fun z => nomatch z))]
                    exact sT3 _ _ e2
                  · rw [List.mem_singleton.mp hq]
                    refine ⟨T3, _, rfl, by rw [upd_ne hT3l]; exact upd_same, by simp, ?_⟩
                    rw [List.length_append, List.length_singleton]
                    omega
          · rintro σ H6 ⟨o4, rfl, s6, hD⟩
            rw [List.length_map, List.take_length] at hD
            exact ⟨_, _, rfl, s35.trans s6, hD⟩
        · rintro σ H4 ⟨o3, o4, rfl, s34, hD⟩
          rw [lk, List.take_length] at hD
          exact ⟨_, rfl, pl, _, _, _, _, rfl, sHb.trans s34, hplH, hD⟩
    · rintro σ H2 ⟨pf, o1, o2, o3, o4, rfl, s2, hpf, kvs, h1, h2, h3⟩
      rw [List.length_map, List.take_length] at h2
      refine ⟨_, rfl, k H2 pf s2 hpf ⟨kvs, h1, h2, fun q hq => let ⟨a, xs, e1, e2, e3, e4⟩ := h3 q hq; ⟨a, xs, e1, e2, e3, ?_⟩⟩⟩
      rw [List.length_map] at e4
      omega
end
end Rg
namespace Rg
open PySem PySem.Spec L2
/-! ### facts: the plain side -/
theorem nodup_len {α : Type} [DecidableEq α] : ∀ {l m : List α}, l.Nodup → (∀ x ∈ l, x ∈ m) → l.length ≤ m.length
  | [], _, _, _ => Nat.zero_le _
  | a :: l, m, hn, hs => by
    rw [List.nodup_cons] at hn
    have h1 : a ∈ m := hs a List.mem_cons_self
    have h2 := nodup_len (l := l) (m := m.erase a) hn.2 fun x hx => (List.mem_erase_of_ne fun e : x = a => hn.1 (e ▸ hx)).mpr (hs x (List.mem_cons_of_mem _ hx))
    rw [List.length_erase_of_mem h1] at h2
    have h3 : 0 < m.length := List.length_pos_of_mem h1
    rw [List.length_cons]
    omega
structure Sized (G : Gr) (row : List Str) : Prop where
  g0 : G ≠ []
  gl : G.length ≤ 8
  rl : row.length ≤ 5
  pl : ∀ r ∈ G, r.ps.length ≤ 4
  sh : ∀ r ∈ G, r.nm.length < 1000 ∧ ∀ p ∈ r.ps, p.length < 1000
  n4 : ∃ l : List Str, l.length ≤ 4 ∧ ∀ r ∈ G, r.nm ∈ l
  ok : ∀ r ∈ G, PyData.strOk r.nm = true ∧ ∀ p ∈ r.ps, PyData.strOk p = true
theorem mem_addE {E : Str → Nat → List Nat} {x y : Str} {i j e e' : Nat} : e' ∈ addE E x i e y j ↔ e' ∈ E y j ∨ (y = x ∧ j = i ∧ e' = e) := by
  unfold addE
  split
  · rename_i h
    obtain ⟨rfl, rfl, h⟩ := h
    rw [List.mem_append, List.mem_singleton]
    simp
  · rename_i h
    constructor
    · exact .inl
    · rintro (h1 | ⟨rfl, rfl, rfl⟩)
      · exact h1
      · exact Classical.byContradiction fun z => h ⟨rfl, rfl, z⟩
theorem mem_foldE {n : Nat} : ∀ {L : List Fct} {E : Str → Nat → List Nat} {x : Str} {i e : Nat}, e ∈ (L.foldl (stepE n) E) x i ↔ e ∈ E x i ∨ ((x, i, e) ∈ L ∧ i ≤ e ∧ e ≤ n)
  | [], E, x, i, e => by simp
  | f :: L, E, x, i, e => by
    rw [List.foldl_cons, mem_foldE, List.mem_cons]
    have h1 : e ∈ stepE n E f x i ↔ e ∈ E x i ∨ ((x, i, e) = f ∧ i ≤ e ∧ e ≤ n) := by
      unfold stepE
      split
      · rename_i h
        rw [mem_addE]
        constructor
        · rintro (h1 | ⟨rfl, rfl, rfl⟩)
          · exact .inl h1
          · exact .inr ⟨rfl, h⟩
        · rintro (h1 | ⟨rfl, h2⟩)
          · exact .inl h1
          · exact .inr ⟨rfl, rfl, rfl⟩
      · rename_i h
        constructor
        · exact .inl
        · rintro (h1 | ⟨rfl, h2⟩)
          · exact h1
          · exact absurd h2 h
    rw [h1]
    constructor
    · rintro ((a | ⟨a, b⟩) | ⟨a, b⟩)
      · exact .inl a
      · exact .inr ⟨.inl a, b⟩
      · exact .inr ⟨.inr a, b⟩
    · rintro (a | ⟨a | a, b⟩)
      · exact .inl (.inl a)
      · exact .inl (.inr ⟨a, b⟩)
      · exact .inr ⟨a, b⟩
theorem mem_endsF {n : Nat} {L : List Fct} {x : Str} {i e : Nat} : e ∈ endsF n L x i ↔ (x, i, e) ∈ L ∧ i ≤ e ∧ e ≤ n := by
  unfold endsF
  rw [mem_foldE]
  simp
theorem nd_addE {E : Str → Nat → List Nat} {x : Str} {i e : Nat} (h : ∀ y j, (E y j).Nodup) (y : Str) (j : Nat) : (addE E x i e y j).Nodup := by
  unfold addE
  split
  · rename_i q
    exact nd_snoc (h x i) q.2.2
  · exact h y j
theorem nd_foldE {n : Nat} : ∀ {L : List Fct} {E : Str → Nat → List Nat}, (∀ y j, (E y j).Nodup) → ∀ y j, ((L.foldl (stepE n) E) y j).Nodup
  | [], E, h => h
  | f :: L, E, h => by
    rw [List.foldl_cons]
    refine nd_foldE fun y j => ?_
    unfold stepE
    split
    · exact nd_addE h y j
    · exact h y j
theorem endsF_nd {n : Nat} {L : List Fct} (y : Str) (j : Nat) : (endsF n L y j).Nodup := nd_foldE (fun _ _ => List.nodup_nil) y j
theorem endsF_le {n : Nat} {L : List Fct} (y : Str) (j : Nat) : (endsF n L y j).length ≤ n + 1 := by
  have := nodup_len (m := List.range (n + 1)) (endsF_nd (n := n) (L := L) y j) fun e he => by
    have := (mem_endsF.mp he).2.2
    exact List.mem_range.mpr (by omega)
  rwa [List.length_range] at this
def insL (l : List Fct) (f : Fct) : List Fct := if f ∈ l then l else l ++ [f]
def freshB (row : List Str) (E : Str → Nat → List Nat) (r : Rl) (b : Nat) : List Fct := (covS row E r.ps b).map fun e => (r.nm, b, e)
def freshR (row : List Str) (E : Str → Nat → List Nat) (r : Rl) : List Fct := (List.range (row.length + 1)).flatMap (freshB row E r)
def freshG (G : Gr) (row : List Str) (E : Str → Nat → List Nat) : List Fct := G.flatMap (freshR row E)
def roundL (G : Gr) (row : List Str) (L : List Fct) : List Fct := (freshG G row (endsF row.length L)).foldl insL L
def iterL (G : Gr) (row : List Str) : Nat → List Fct
  | 0 => []
  | k + 1 => roundL G row (iterL G row k)
def IsFound (G : Gr) (row : List Str) (L : List Fct) : Prop := ∃ k, L = iterL G row k ∧ roundL G row L = L
theorem iterL_stable {G : Gr} {row : List Str} {k : Nat} (h : roundL G row (iterL G row k) = iterL G row k) : ∀ m, iterL G row (k + m) = iterL G row k
  | 0 => rfl
  | m + 1 => by
    show roundL G row (iterL G row (k + m)) = _
    rw [iterL_stable h m, h]
theorem IsFound.uniq {G : Gr} {row : List Str} {L L' : List Fct} (h : IsFound G row L) (h' : IsFound G row L') : L = L' := by
  obtain ⟨k, rfl, e⟩ := h
  obtain ⟨k', rfl, e'⟩ := h'
  rcases Nat.le_total k k' with q | q
  · have := iterL_stable e (k' - k)
    rw [Nat.add_sub_cancel' q] at this
    exact this.symm
  · have := iterL_stable e' (k - k')
    rw [Nat.add_sub_cancel' q] at this
    exact this
theorem mem_insL {y : Fct} : ∀ {bs l : List Fct}, y ∈ bs.foldl insL l ↔ y ∈ l ∨ y ∈ bs
  | [], l => by simp
  | b :: bs, l => by
    rw [List.foldl_cons, mem_insL]
    unfold insL
    split
    · rename_i h
      constructor
      · rintro (h1 | h1)
        · exact .inl h1
        · exact .inr (List.mem_cons_of_mem _ h1)
      · rintro (h1 | h1)
        · exact .inl h1
        · rcases List.mem_cons.mp h1 with e | h1
          · subst e; exact .inl h
          · exact .inr h1
    · rw [List.mem_append, List.mem_singleton, List.mem_cons, or_assoc]
theorem insL_len : ∀ (bs l : List Fct), l.length ≤ (bs.foldl insL l).length
  | [], l => Nat.le_refl _
  | b :: bs, l => by
    have h1 := insL_len bs (insL l b)
    have h2 : l.length ≤ (insL l b).length := by
      unfold insL
      split
      · exact Nat.le_refl _
      · simp
    exact Nat.le_trans h2 h1
theorem insL_nd : ∀ (bs l : List Fct), l.Nodup → (bs.foldl insL l).Nodup
  | [], l, h => h
  | b :: bs, l, h => by
    rw [List.foldl_cons]
    refine insL_nd bs _ ?_
    unfold insL
    split
    · exact h
    · rename_i q
      exact nd_snoc h q
/-- trees -/
inductive Nd
  | wd (s : Str)
  | nd (n : Nat) (cs : List Nd)
mutual
inductive RT (G : Gr) (row : List Str) : Str → Nat → Nat → Nd → Prop
  | mk {n : Nat} {r : Rl} {i j : Nat} {cs : List Nd} : G[n]? = some r → RTs G row r.ps i j cs → RT G row r.nm i j (.nd n cs)
inductive RTs (G : Gr) (row : List Str) : List Str → Nat → Nat → List Nd → Prop
  | nil (i : Nat) : RTs G row [] i i []
  | word {x : Str} {ps : List Str} {i j : Nat} {cs : List Nd} : isN x = false → row[i]? = some x → RTs G row ps (i + 1) j cs → RTs G row (x :: ps) i j (.wd x :: cs)
  | name {x : Str} {ps : List Str} {i c j : Nat} {t : Nd} {cs : List Nd} : isN x = true → RT G row x i c t → RTs G row ps c j cs → RTs G row (x :: ps) i j (t :: cs)
end
def Der (G : Gr) (row : List Str) (x : Str) (i j : Nat) : Prop := ∃ t, RT G row x i j t
mutual
theorem RT.le {G : Gr} {row : List Str} : ∀ {x : Str} {i j : Nat} {t : Nd}, RT G row x i j t → i ≤ row.length → i ≤ j ∧ j ≤ row.length
  | _, _, _, _, .mk _ h, hi => RTs.le h hi
theorem RTs.le {G : Gr} {row : List Str} : ∀ {ps : List Str} {i j : Nat} {ts : List Nd}, RTs G row ps i j ts → i ≤ row.length → i ≤ j ∧ j ≤ row.length
  | _, _, _, _, .nil i, hi => ⟨Nat.le_refl _, hi⟩
  | _, _, _, _, .word _ h2 h3, hi => by
    have h4 := (List.getElem?_eq_some_iff.mp h2).1
    have := RTs.le h3 (by omega)
    omega
  | _, _, _, _, .name _ h2 h3, hi => by
    have h4 := RT.le h2 hi
    have := RTs.le h3 h4.2
    omega
end
/-- what a list of names and words covers by ends -/
inductive Chain (row : List Str) (E : Str → Nat → List Nat) : List Str → Nat → Nat → Prop
  | nil (i : Nat) : Chain row E [] i i
  | cons {x : Str} {ps : List Str} {i c j : Nat} : c ∈ behind row E x i → Chain row E ps c j → Chain row E (x :: ps) i j
theorem mem_covC {row : List Str} {E : Str → Nat → List Nat} {y : Nat} : ∀ {ps : List Str} {C : List Nat}, y ∈ ps.foldl (covStep row E) C ↔ ∃ c ∈ C, Chain row E ps c y
  | [], C => by
    constructor
    · exact fun h => ⟨y, h, .nil y⟩
    · rintro ⟨c, h, q⟩
      cases q
      exact h
  | x :: ps, C => by
    rw [List.foldl_cons, mem_covC]
    constructor
    · rintro ⟨c, h, q⟩
      obtain ⟨c', h1, h2⟩ := mem_covStep.mp h
      exact ⟨c', h1, .cons h2 q⟩
    · rintro ⟨c, h, q⟩
      cases q with
      | cons h2 q => exact ⟨_, mem_covStep.mpr ⟨c, h, h2⟩, q⟩
theorem mem_covS {row : List Str} {E : Str → Nat → List Nat} {ps : List Str} {b y : Nat} : y ∈ covS row E ps b ↔ Chain row E ps b y := by
  unfold covS
  rw [mem_covC]
  simp
theorem mem_behind {row : List Str} {E : Str → Nat → List Nat} {x : Str} {i c : Nat} : c ∈ behind row E x i ↔ (isN x = true ∧ c ∈ E x i) ∨ (isN x = false ∧ row[i]? = some x ∧ c = i + 1) := by
  unfold behind
  cases isN x with
  | true => simp
  | false =>
    simp only [Bool.false_eq_true, if_false, false_and, false_or, true_and]
    split
    · rename_i h; simp [h]
    · rename_i h; simp [h]
theorem mem_freshG {G : Gr} {row : List Str} {E : Str → Nat → List Nat} {f : Fct} : f ∈ freshG G row E ↔ f.2.1 ≤ row.length ∧ ∃ r ∈ G, r.nm = f.1 ∧ Chain row E r.ps f.2.1 f.2.2 := by
  unfold freshG freshR freshB
  rw [List.mem_flatMap]
  constructor
  · rintro ⟨r, hr, h⟩
    obtain ⟨b, hb, h⟩ := List.mem_flatMap.mp h
    obtain ⟨e, he, rfl⟩ := List.mem_map.mp h
    exact ⟨by have := List.mem_range.mp hb; show b ≤ _; omega, r, hr, rfl, mem_covS.mp he⟩
  · rintro ⟨hb, r, hr, e, h⟩
    refine ⟨r, hr, List.mem_flatMap.mpr ⟨f.2.1, List.mem_range.mpr (by omega), List.mem_map.mpr ⟨f.2.2, mem_covS.mpr h, ?_⟩⟩⟩
    rw [e]
/-- a fact that holds -/
def FOk (G : Gr) (row : List Str) (f : Fct) : Prop := f.2.1 ≤ row.length ∧ Der G row f.1 f.2.1 f.2.2
theorem Chain.sound {G : Gr} {row : List Str} {L : List Fct} (h : ∀ f ∈ L, FOk G row f) : ∀ {ps : List Str} {i j : Nat}, Chain row (endsF row.length L) ps i j → ∃ cs, RTs G row ps i j cs
  | _, _, _, .nil i => ⟨[], .nil i⟩
  | _, _, _, .cons (x := x) h1 h2 => by
    obtain ⟨cs, q⟩ := Chain.sound h h2
    rcases mem_behind.mp h1 with ⟨a, b⟩ | ⟨a, b, rfl⟩
    · obtain ⟨_, t, ht⟩ := h _ (mem_endsF.mp b).1
      exact ⟨t :: cs, .name a ht q⟩
    · exact ⟨.wd x :: cs, .word a b q⟩
theorem iterL_sound {G : Gr} {row : List Str} : ∀ k, ∀ f ∈ iterL G row k, FOk G row f
  | 0 => fun _ h => absurd h List.not_mem_nil
  | k + 1 => by
    intro f hf
    rcases mem_insL.mp hf with h | h
    · exact iterL_sound k f h
    · obtain ⟨hb, r, hr, e, hc⟩ := mem_freshG.mp h
      obtain ⟨cs, q⟩ := hc.sound (iterL_sound k)
      obtain ⟨n, hn⟩ := List.mem_iff_getElem?.mp hr
      refine ⟨hb, .nd n cs, ?_⟩
      rw [← e]
      exact .mk hn q
theorem iterL_nd {G : Gr} {row : List Str} : ∀ k, (iterL G row k).Nodup
  | 0 => List.nodup_nil
  | k + 1 => insL_nd _ _ (iterL_nd k)
mutual
theorem RT.found {G : Gr} {row : List Str} {L : List Fct} (h : roundL G row L = L) : ∀ {x : Str} {i j : Nat} {t : Nd}, RT G row x i j t → i ≤ row.length → (x, i, j) ∈ L
  | _, i, j, _, .mk (r := r) hn q, hi => by
    rw [← h]
    exact mem_insL.mpr (.inr (mem_freshG.mpr ⟨hi, r, List.mem_of_getElem? hn, rfl, RTs.found h q hi⟩))
theorem RTs.found {G : Gr} {row : List Str} {L : List Fct} (h : roundL G row L = L) : ∀ {ps : List Str} {i j : Nat} {ts : List Nd}, RTs G row ps i j ts → i ≤ row.length → Chain row (endsF row.length L) ps i j
  | _, _, _, _, .nil i, _ => .nil i
  | _, _, _, _, .word h1 h2 h3, hi => by
    have h4 := (List.getElem?_eq_some_iff.mp h2).1
    exact .cons (mem_behind.mpr (.inr ⟨h1, h2, rfl⟩)) (RTs.found h h3 (by omega))
  | _, _, _, _, .name h1 h2 h3, hi => by
    have h4 := RT.le h2 hi
    exact .cons (mem_behind.mpr (.inl ⟨h1, mem_endsF.mpr ⟨RT.found h h2 hi, h4⟩⟩)) (RTs.found h h3 h4.2)
end
theorem IsFound.nd {G : Gr} {row : List Str} {L : List Fct} (h : IsFound G row L) : L.Nodup := by
  obtain ⟨k, rfl, _⟩ := h
  exact iterL_nd k
theorem IsFound.mem {G : Gr} {row : List Str} {L : List Fct} (h : IsFound G row L) {f : Fct} : f ∈ L ↔ FOk G row f := by
  obtain ⟨k, rfl, e⟩ := h
  refine ⟨iterL_sound k f, fun ⟨hi, t, ht⟩ => ?_⟩
  exact ht.found e hi
theorem RT.nm {G : Gr} {row : List Str} {x : Str} {i j : Nat} {t : Nd} (h : RT G row x i j t) : ∃ r ∈ G, r.nm = x := by
  cases h with
  | mk hn _ => exact ⟨_, List.mem_of_getElem? hn, rfl⟩
theorem FOk.le {G : Gr} {row : List Str} {f : Fct} (h : FOk G row f) : f.2.1 ≤ f.2.2 ∧ f.2.2 ≤ row.length := h.2.elim fun _ q => q.le h.1
def allF (G : Gr) (row : List Str) : List Fct := G.flatMap fun r => (List.range (row.length + 1)).flatMap fun i => (List.range (row.length + 1)).map fun j => (r.nm, i, j)
theorem mem_allF {G : Gr} {row : List Str} {f : Fct} (h : FOk G row f) : f ∈ allF G row := by
  obtain ⟨x, i, j⟩ := f
  have h1 := h.le
  obtain ⟨hi, t, ht⟩ := h
  obtain ⟨r, hr, rfl⟩ := ht.nm
  refine List.mem_flatMap.mpr ⟨r, hr, List.mem_flatMap.mpr ⟨i, List.mem_range.mpr ?_, List.mem_map.mpr ⟨j, List.mem_range.mpr ?_, rfl⟩⟩⟩
  · have : i ≤ row.length := hi
    omega
  · have : j ≤ row.length := h1.2
    omega
theorem flatMap_len {α β : Type} {f : α → List β} {m : Nat} (h : ∀ x, (f x).length ≤ m) : ∀ l : List α, (l.flatMap f).length ≤ l.length * m
  | [] => by simp
  | a :: l => by
    have h1 := flatMap_len h l
    have h2 := h a
    rw [List.flatMap_cons, List.length_append, List.length_cons, Nat.succ_mul]
    omega
theorem allF_len {G : Gr} {row : List Str} (S : Sized G row) : (allF G row).length ≤ 288 := by
  have hr := S.rl
  have hg := S.gl
  have h1 : ∀ r : Rl, ((List.range (row.length + 1)).flatMap fun i => (List.range (row.length + 1)).map fun j => ((r.nm, i, j) : Fct)).length ≤ 36 := fun r => by
    refine Nat.le_trans (flatMap_len (m := 6) (fun i => ?_) _) ?_
    · rw [List.length_map, List.length_range]; omega
    · rw [List.length_range]; omega
  refine Nat.le_trans (flatMap_len (m := 36) h1 _) ?_
  omega
theorem iterL_len {G : Gr} {row : List Str} (S : Sized G row) (k : Nat) : (iterL G row k).length ≤ 288 :=
  Nat.le_trans (nodup_len (iterL_nd k) fun f hf => mem_allF (iterL_sound k f hf)) (allF_len S)
end Rg
namespace Rg
open PySem PySem.Spec L2
def fKey (f : Fct) : List Key := [.inr f.1, .inl (f.2.1 : Int), .inl (f.2.2 : Int)]
theorem fKey_inj {f g : Fct} (h : fKey f = fKey g) : f = g := by
  obtain ⟨a, b, c⟩ := f
  obtain ⟨a', b', c'⟩ := g
  unfold fKey at h
  simp only [List.cons.injEq, Sum.inr.injEq, Sum.inl.injEq, and_true] at h
  obtain ⟨h1, h2, h3⟩ := h
  have h2' : b = b' := by omega
  have h3' : c = c' := by omega
  rw [h1, h2', h3']
theorem fKey_mem {L : List Fct} {f : Fct} : fKey f ∈ L.map fKey ↔ f ∈ L := by
  rw [List.mem_map]
  exact ⟨fun ⟨g, h, e⟩ => fKey_inj e ▸ h, fun h => ⟨f, h, rfl⟩⟩
def FrV (H : Hp) (v : V) (f : Fct) : Prop := ∃ (a : Addr) (num : Int) (cut : V), v = .ref a ∧ H a = some (.tup [.str f.1, vN f.2.1, vN f.2.2, .int num, cut])
theorem FrV.mono {H H' : Hp} (t : TuS H H') {v : V} {f : Fct} (h : FrV H v f) : FrV H' v f := let ⟨a, n, c, e, q⟩ := h; ⟨a, n, c, e, t _ _ q⟩
theorem paired_get {α β : Type} {F : α → β → Prop} : ∀ {l : List α} {m : List β} {i : Nat} {a : α}, Paired F l m → l[i]? = some a → ∃ b, m[i]? = some b ∧ F a b
  | _, _, _, _, .nil, e => by simp at e
  | _, _, 0, _, .cons h _, e => by
    have e' := Option.some.inj e
    subst e'
    exact ⟨_, rfl, h⟩
  | _, _, i + 1, _, .cons _ t, e => by
    obtain ⟨d, h1, h2⟩ := paired_get (i := i) t (by simpa using e)
    exact ⟨d, by simpa using h1, h2⟩
/-- a thing that is no list and not the dict itself stands out of the ends -/
theorem EndsAt.offKind {B H : Hp} {d b : Addr} {E : Str → Nat → List Nat} {m : Nat} {o : HO} (h : EndsAt B H d E m) (hb : b ≠ d) (e : H b = some o) (hk : ∀ vs, o ≠ .lst vs) : offE H d b = some o := by
  obtain ⟨out, kvs, h1, h2, h3, h4, h5, h6⟩ := h
  unfold offE
  rw [if_neg, e]
  rintro (rfl | ⟨kvs', k, e1, hm⟩)
  · exact hb rfl
  · rw [h1] at e1
    cases e1
    obtain ⟨x, i, l, e', q1, q2, q3⟩ := h5 _ hm
    have : V.ref b = V.ref l := congrArg Prod.snd e'
    cases this
    have q1' : H b = some (.lst ((E x i).map vN)) := q1
    rw [e] at q1'
    exact hk _ (Option.some.inj q1')
theorem EndsAt.call {B Hc H' : Hp} {d : Addr} {E E' : Str → Nat → List Nat} {m m' : Nat} (h : EndsAt B Hc d E m) (s : Same B Hc) (h' : EndsAt (offE Hc d) H' d E' m') (s' : Same (offE Hc d) H') : EndsAt B H' d E' m' ∧ Same B H' := by
  refine ⟨h'.base fun b hb => ?_, fun b o e => s' _ _ ?_⟩
  · cases q : B b with
    | none => rfl
    | some o =>
      rw [h.offOf (by rw [q]; exact fun z => nomatch z), s _ _ q] at hb
      cases hb
  · rw [h.offOf (by rw [e]; exact fun z => nomatch z)]
    exact s _ _ e
theorem covS_le {row : List Str} {E : Str → Nat → List Nat} (h : ∀ x i, (E x i).length ≤ 8) {ps : List Str} (hp : ps.length ≤ 4) (b : Nat) : (covS row E ps b).length ≤ 4096 := by
  have h1 := covS_len h (row := row) ps [b]
  have h3 : 8 ^ ps.length ≤ 8 ^ 4 := Nat.pow_le_pow_right (by decide) hp
  unfold covS
  simp only [List.length_cons, List.length_nil] at h1
  omega
theorem endsF_snoc {n : Nat} {L : List Fct} {f : Fct} (h1 : f.2.1 ≤ f.2.2) (h2 : f.2.2 ≤ n) : endsF n (L ++ [f]) = addE (endsF n L) f.1 f.2.1 f.2.2 := by
  unfold endsF
  rw [List.foldl_append]
  show stepE n _ f = _
  unfold stepE
  rw [if_pos ⟨h1, h2⟩]
theorem take_succ_of {α : Type} {l : List α} {i : Nat} {a : α} (h : l[i]? = some a) : l.take (i + 1) = l.take i ++ [a] := by
  rw [List.take_add_one, h]
  rfl
theorem flatMap_lenM {α β : Type} {f : α → List β} {m : Nat} : ∀ {l : List α}, (∀ x ∈ l, (f x).length ≤ m) → (l.flatMap f).length ≤ l.length * m
  | [], _ => by simp
  | a :: l, h => by
    have h1 := flatMap_lenM (l := l) fun x hx => h x (List.mem_cons_of_mem _ hx)
    have h2 := h a List.mem_cons_self
    rw [List.flatMap_cons, List.length_append, List.length_cons, Nat.succ_mul]
    omega
theorem EndsAt.wr {B H : Hp} {d b : Addr} {E : Str → Nat → List Nat} {m : Nat} {o u : HO} (h : EndsAt B H d E m) (hb : b ≠ d) (e : H b = some o) (hk : ∀ vs, o ≠ .lst vs) : EndsAt B (upd H b u) d E m := by
  obtain ⟨out, kvs, h1, h2, h3, h4, h5, h6⟩ := h
  refine ⟨out, kvs, by rw [upd_ne (Ne.symm hb)]; exact h1, h2, h3, h4, fun p hp => ?_, h6⟩
  obtain ⟨x, i, l, e', q1, q2, q3⟩ := h5 p hp
  refine ⟨x, i, l, e', ?_, q2, q3⟩
  unfold NL
  rw [upd_ne (fun z => by subst z; exact hk _ (Option.some.inj (e.symm.trans q1)))]
  exact q1
def muF (pf : Addr) (σ : L2.St) (H : Hp) : Nat := match σ[4]?, H pf with
  | some (some (V.bl true)), some (HO.dT kvs) => 1 + (288 - kvs.length)
  | _, _ => 0
theorem muF_t {pf : Addr} {σ : L2.St} {H : Hp} {kvs : List (List Key × V)} (h4 : σ[4]? = some (some (.bl true))) (h : H pf = some (.dT kvs)) : muF pf σ H = 1 + (288 - kvs.length) := by
  unfold muF
  rw [h4, h]
theorem muF_f {pf : Addr} {σ : L2.St} {H : Hp} (h4 : σ[4]? = some (some (.bl false))) : muF pf σ H = 0 := by
  unfold muF
  rw [h4]
section
variable {P : Program} {w : World} {K : PySem.W.Frag} {mg : Str → Option Value} {base : Heap} {f : Addr} {fd : FuncData}
def sp_found_facts : Sp := fun vs H Q _ => ∃ (a ra : Addr) (G : Gr) (row : List Str), vs = [.ref a, .ref ra] ∧ LD H a (G.map eRl) ∧ WL H ra row ∧ Sized G row ∧
  ∀ H' p kvs L, Same H H' → H p = none → H' p = some (.dT kvs) → IsFound G row L → kvs.map (·.1) = L.map fKey → Q (.ref p) H'
theorem ok_found_facts (F : Fun K "found_facts" "found_facts" st_found_facts f fd) (B : Bl mg) (Cc : Cal P w K mg base 3 "covered" ["row", "ends", "parts", "begin"] sp_covered) (Ca : Cal P w K mg base 1 "add_end" ["ends", "name", "begin", "end"] sp_add_end) :
    FnOk P w K mg base CX0 4 f fd ["grammar", "row"] sp_found_facts := by
  refine F.ok sc_found_facts (fun vs H Q E h => ?_) (fun cdv A outer s H vs Q E hr h => ?_)
  · obtain ⟨a, ra, G, row, rfl, _⟩ := h
    rfl
  · obtain ⟨a, ra, G, row, rfl, ⟨gvs, hgv, hG⟩, hrow, S, k⟩ := h
    have nd := sc_found_facts.nd
    have hu := hu_of hr
    refine ⟨_, pss_cons (ps_set (i := 2) nd rfl (Or.inl rfl) pe_dnewT)
      (pss_cons (ps_set (i := 3) nd rfl (Or.inl rfl) pe_dnewT)
      (pss_cons (ps_set (i := 4) nd rfl (Or.inl rfl) pe_bl)
      (pss_cons (ps_while PassesOwn.never (pt_val (pv 4))
        (pss_cons (ps_set (i := 4) nd rfl (Or.inl rfl) pe_bl)
        (pss_cons (ps_set (i := 5) nd rfl (Or.inl rfl) (pe_lst pa_nil))
        (pss_cons (ps_for PassesOwn.never rfl (pi_enum rfl B.enumerate (pa_cons (pv 0) pa_nil)) (pg_tup rfl (pgs_cons (pg_name (i := 6) nd rfl (Or.inl rfl)) (pgs_cons (pg_name (i := 7) nd rfl (Or.inl rfl)) pgs_nil)))
          (pss_one (ps_for PassesOwn.never rfl (pi_range1 rfl B.range (pa_cons (pe_op op_add (pe_len B rfl (pv 1)) pe_int) pa_nil)) (pg_name (i := 8) nd rfl (Or.inl rfl))
            (pss_one (ps_for PassesOwn.never rfl (pi_items (pe_frz (pe_cal Cc hr rfl (pa_cons (pv 1) (pa_cons (pv 2) (pa_cons (pe_ix ix_tup (pv 7) pe_int (fun _ _ => rfl)) (pa_cons (pv 8) pa_nil))))))) (pg_tup rfl (pgs_cons (pg_name (i := 9) nd rfl (Or.inl rfl)) (pgs_cons (pg_name (i := 10) nd rfl (Or.inl rfl)) pgs_nil)))
              (pss_one (ps_expr (pe_app (pv 5) (pe_tup (pa_cons (pe_ix ix_tup (pv 7) pe_int (fun _ _ => rfl)) (pa_cons (pv 8) (pa_cons (pv 9) (pa_cons (pv 6) (pa_cons (pv 10) pa_nil))))))))))))))
        (pss_one (ps_for PassesOwn.never rfl (pi_list (pv 5)) (pg_tup rfl (pgs_cons (pg_name (i := 11) nd rfl (Or.inl rfl)) (pgs_cons (pg_name (i := 8) nd rfl (Or.inl rfl)) (pgs_cons (pg_name (i := 9) nd rfl (Or.inl rfl)) (pgs_cons (pg_name (i := 6) nd rfl (Or.inl rfl)) (pgs_cons (pg_name (i := 10) nd rfl (Or.inl rfl)) pgs_nil))))))
          (pss_one (ps_if (pt_val (pe_cal Ca (hr.mono (by decide)) rfl (pa_cons (pv 2) (pa_cons (pv 11) (pa_cons (pv 8) (pa_cons (pv 9) pa_nil))))))
            (pss_cons (ps_dput hu (pv 3) (pe_tup (pa_cons (pv 11) (pa_cons (pv 8) (pa_cons (pv 9) pa_nil)))) (pe_tup (pa_cons (pv 6) (pa_cons (pv 10) pa_nil))) rfl)
            (pss_one (ps_set (i := 4) nd rfl (Or.inl rfl) pe_bl))) pss_nil))))))))
      (pss_one (ps_ret (pv 3)))))), ?_⟩
    have lg := hG.length
    rw [List.length_map] at lg
    intro d hd pf hpf
    have sd : Same H (upd H d (.dT [])) := same_new hd
    have hdf : d ≠ pf := ne_of_none (H := upd H d (.dT [])) upd_same hpf
    have hpfH : H pf = none := sd.free hpf
    have s0 : Same H (upd (upd H d (.dT [])) pf (.dT [])) := sd.trans (same_new hpf)
    refine while_by (fun σ H2 => ∃ (b : Bool) (n : Nat) (kvs : List (List Key × V)) (o5 o6 o7 o8 o9 o10 o11 : Option V), σ = [some (.ref a), some (.ref ra), some (.ref d), some (.ref pf), some (.bl b), o5, o6, o7, o8, o9, o10, o11] ∧ Same H H2 ∧
        EndsAt H H2 d (endsF row.length (iterL G row n)) (iterL G row n).length ∧ H2 pf = some (.dT kvs) ∧ kvs.map (·.1) = (iterL G row n).map fKey ∧ (b = false → roundL G row (iterL G row n) = iterL G row n))
      (muF pf)
      ⟨true, 0, [], none, none, none, none, none, none, none, rfl, s0, ⟨hd, [], by rw [upd_ne hdf]; exact upd_same, Nat.zero_le _, List.nodup_nil, List.nodup_nil, (fun _ h => absurd h List.not_mem_nil), fun _ _ _ => rfl⟩, upd_same, rfl, fun z => nomatch z⟩ ?_ (fun σ H Q Q' h ⟨v, e, kk, ek, q⟩ => ⟨v, e, kk, ek, h _ _ q⟩)
    rintro σ H2 ⟨b, n, kvs, o5, o6, o7, o8, o9, o10, o11, rfl, s2, hE, hpf2, hkk, hb⟩
    refine ⟨_, rfl, b, rfl, ?_⟩
    cases b with
    | false => exact ⟨_, rfl, k H2 pf kvs _ s2 hpfH hpf2 ⟨n, rfl, hb rfl⟩ hkk⟩
    | true =>
      clear hb
      have hLl := iterL_len S n
      have hsound := iterL_sound (G := G) (row := row) n
      have hnd := iterL_nd (G := G) (row := row) n
      have hround : roundL G row (iterL G row n) = iterL G row (n + 1) := rfl
      rw [if_pos rfl]
      refine ⟨by decide, fun pr hpr => ?_⟩
      have hprH : H pr = none := s2.free hpr
      have hprf : pf ≠ pr := ne_of_none hpf2 hpr
      generalize hL : iterL G row n = L at *
      have h8 : ∀ x i, (endsF row.length L x i).length ≤ 8 := fun x i => by
        have := endsF_le (n := row.length) (L := L) x i
        have := S.rl
        omega
      generalize hEE : endsF row.length L = EE at *
      generalize hH3 : upd H2 pr (.lst []) = H3
      have s3 : Same H2 H3 := by rw [← hH3]; exact same_new hpr
      have h3r : H3 pr = some (.lst []) := by rw [← hH3]; exact upd_same
      have hB2 : Same H2 (but H3 pr) := same_but s3 hpr
      have hcl : ∀ r ∈ G, ∀ b, (covS row EE r.ps b).length ≤ 4096 := fun r hr b => covS_le h8 (S.pl r hr) b
      have lbB : ∀ r ∈ G, ∀ b, (freshB row EE r b).length ≤ 4096 := fun r hr b => by
        unfold freshB
        rw [List.length_map]
        exact hcl r hr b
      have lbR : ∀ r ∈ G, ∀ b, b ≤ 6 → ((List.range b).flatMap (freshB row EE r)).length ≤ 24576 := fun r hr b hb6 => by
        have := flatMap_lenM (l := List.range b) (f := freshB row EE r) fun x _ => lbB r hr x
        rw [List.length_range] at this
        omega
      have hrl := S.rl
      have hgl := S.gl
      have lbG : ∀ i, ((G.take i).flatMap (freshR row EE)).length ≤ 196608 := fun i => by
        have := flatMap_lenM (l := G.take i) (f := freshR row EE) fun r hr => lbR r (List.mem_of_mem_take hr) _ (by omega)
        have h2 : (G.take i).length ≤ 8 := by rw [List.length_take]; omega
        omega
      have gv3 : but H3 pr a = some (.lst gvs) := hB2 _ _ (s2 _ _ hgv)
      refine ⟨_, rfl, a, gvs, rfl, SqL.of (s3 _ _ (s2 _ _ hgv)), for_it (walk_enum (xs := gvs)) (fun i σ Hc => ∃ (o6 o7 o8 o9 o10 : Option V), σ = [some (.ref a), some (.ref ra), some (.ref d), some (.ref pf), some (.bl false), some (.ref pr), o6, o7, o8, o9, o10, o11] ∧ Same (but H3 pr) Hc ∧
          ∃ vs, Hc pr = some (.lst vs) ∧ Paired (FrV Hc) vs ((G.take i).flatMap (freshR row EE)))
        ⟨o6, o7, o8, o9, o10, rfl, but_same, [], h3r, .nil⟩ (fun i σ Hc _ ⟨_, _, _, _, _, _, s, _⟩ => SqL.of (s _ _ gv3)) ?_ ?_⟩
      · rintro i v σ Hc Hc' hil ⟨o6, o7, o8, o9, o10, rfl, sc, vs, hvs, hPF⟩ ⟨T, x1, y1, rfl, hT, rfl, e1, e2⟩
        cases e1
        obtain ⟨r, b', pa, hr1, rfl, hb', hpa⟩ := getRl hG e2
        have hrG : r ∈ G := List.mem_of_getElem? hr1
        have sT : Same Hc (upd Hc T (.tup [.int (i : Nat), .ref b'])) := same_new hT
        refine ⟨T, _, rfl, SqT.of upd_same, rfl, _, _, rfl, _, _, rfl, rfl, ?_⟩
        generalize hHT : upd Hc T (.tup [.int (i : Nat), .ref b']) = HT at *
        have sH : Same H HT := ((s2.trans hB2).trans sc).trans sT
        have ej : (((row.map V.str).length : Int) + 1).toNat = row.length + 1 := by rw [List.length_map]; omega
        refine ⟨_, rfl, ra, _, rfl, .inl (SqL.of (sH _ _ hrow)), _, _, rfl, rfl, _, rfl, by rw [List.length_map]; omega, by rw [List.length_map]; omega, ?_⟩
        rw [ej]
        refine for_range (fun b σ Hc => ∃ (o8 o9 o10 : Option V), σ = [some (.ref a), some (.ref ra), some (.ref d), some (.ref pf), some (.bl false), some (.ref pr), some (.int (i : Nat)), some (.ref b'), o8, o9, o10, o11] ∧ Same (but H3 pr) Hc ∧
          ∃ vs, Hc pr = some (.lst vs) ∧ Paired (FrV Hc) vs ((G.take i).flatMap (freshR row EE) ++ (List.range b).flatMap (freshB row EE r)))
          ⟨o8, o9, o10, rfl, sc.trans sT, vs, sT _ _ hvs, by simpa using hPF.mono (fun _ _ h => h.mono (TuS.of sT))⟩ ?_ ?_
        · rintro b σ Hc hbl ⟨o8, o9, o10, rfl, sc, vs, hvs, hPF⟩
          rw [show ((0 : Int) + (b : Int)) = (b : Int) from Int.zero_add _]
          have sH : Same H Hc := (s2.trans hB2).trans sc
          refine ⟨_, rfl, _, rfl, _, rfl, b', _, 1, _, rfl, rfl, SqT.of (sH _ _ hb'), atI_nat (j := 1) rfl, _, rfl, ra, d, pa, b, row, r.ps, H, EE, L.length, rfl, sH _ _ hrow, hE.mono (hB2.trans sc), sH _ _ hpa, S.pl r hrG, (S.sh r hrG).2, h8, fun H5 p s5 hp hC => ?_⟩
          obtain ⟨kv5, hkv5, hkk5, _⟩ := hC
          refine ⟨p, _, rfl, hkv5, True.intro, fun od => ⟨p, od, kv5, rfl, upd_same, ?_⟩⟩
          have s56 : Same Hc (upd H5 p (.frz od (.dK kv5))) := same_upd s5 hp
          have hpp : p ≠ pr := fun z => by subst z; rw [hvs] at hp; cases hp
          generalize hH6 : upd H5 p (.frz od (.dK kv5)) = H6 at *
          have h6p : H6 p = some (.frz od (.dK kv5)) := by rw [← hH6]; exact upd_same
          have h6r : H6 pr = some (.lst vs) := s56 _ _ hvs
          have s36 : Same (but H3 pr) (but H6 pr) := same_but (sc.trans s56) but_none
          have sH6 : Same H (but H6 pr) := (s2.trans hB2).trans s36
          have hpb : but H6 pr p = some (.frz od (.dK kv5)) := by rw [but_ne hpp]; exact h6p
          have lk5 : kv5.length = (covS row EE r.ps b).length := by
            have := congrArg List.length hkk5
            rw [List.length_map, List.length_map] at this
            exact this
          have hcl' := hcl r hrG b
          refine for_it walk_items (fun t σ Hc => ∃ (o9 o10 : Option V), σ = [some (.ref a), some (.ref ra), some (.ref d), some (.ref pf), some (.bl false), some (.ref pr), some (.int (i : Nat)), some (.ref b'), some (.int (b : Nat)), o9, o10, o11] ∧ Same (but H6 pr) Hc ∧
            ∃ vs, Hc pr = some (.lst vs) ∧ Paired (FrV Hc) vs (((G.take i).flatMap (freshR row EE) ++ (List.range b).flatMap (freshB row EE r)) ++ ((covS row EE r.ps b).take t).map fun e => (r.nm, b, e)))
            ⟨o9, o10, rfl, but_same, vs, h6r, by simpa using hPF.mono (fun _ _ h => h.mono (TuS.of s56))⟩ (fun t σ Hc _ ⟨_, _, _, s, _⟩ => s _ _ hpb) ?_ ?_
          · rintro t v σ Hc Hc' htl ⟨o9, o10, rfl, s7, ws, hws, hPW⟩ ⟨T, x1, y1, rfl, hT, rfl, e1, e2⟩
            cases q5 : kv5[t]? with
            | none =>
              replace e1 : (kv5[t]?).map (fun kv => kV kv.1) = some x1 := e1
              rw [q5] at e1
              cases e1
            | some q =>
              replace e1 : (kv5[t]?).map (fun kv => kV kv.1) = some x1 := e1
              replace e2 : (kv5[t]?).map Prod.snd = some y1 := e2
              rw [q5] at e1 e2
              obtain ⟨kk', cut⟩ := q
              have ey : y1 = cut := (Option.some.inj e2).symm
              subst ey
              obtain ⟨e, he, rfl⟩ : ∃ e : Nat, (covS row EE r.ps b)[t]? = some e ∧ kk' = .inl (e : Int) := by
                have h1 : (kv5.map (·.1))[t]? = some kk' := by rw [List.getElem?_map, q5]; rfl
                rw [hkk5, List.getElem?_map] at h1
                cases q : (covS row EE r.ps b)[t]? with
                | none => rw [q] at h1; cases h1
                | some c => rw [q] at h1; exact ⟨c, rfl, (Option.some.inj h1).symm⟩
              have ex : x1 = .int (e : Int) := (Option.some.inj e1).symm
              subst ex
              have sT : Same Hc (upd Hc T (.tup [.int (e : Int), y1])) := same_new hT
              refine ⟨T, _, rfl, SqT.of upd_same, rfl, _, _, rfl, _, _, rfl, rfl, ?_⟩
              have hws1 := sT _ _ hws
              refine ⟨_, rfl, .inl ⟨rfl, _, SqL.of hws1⟩, _, rfl, b', _, 0, _, rfl, rfl, SqT.of (sT _ _ (s7 _ _ (sH6 _ _ hb'))), atI_nat (j := 0) rfl, _, rfl, _, rfl, _, rfl, _, rfl, by show 5 ≤ sizeLine; decide, fun T2 hT2 => ?_⟩
              have hT2r : T2 ≠ pr := fun z => by subst z; rw [hws1] at hT2; cases hT2
              have lw : ws.length ≤ 300000 := by
                have h1 : ws.length = _ := Paired.length hPW
                rw [List.length_append, List.length_append, List.length_map, List.length_take] at h1
                have h2 := lbG i
                have h3 := lbR r hrG b (by omega)
                omega
              refine ⟨pr, ws, _, rfl, rfl, (same_new hT2) _ _ hws1, small6 (by omega), ?_⟩
              have tS : TuS Hc (upd (upd (upd Hc T (.tup [.int (e : Int), y1])) T2 (.tup [.str r.nm, .int (b : Nat), .int (e : Int), .int (i : Nat), y1])) pr (.lst (ws ++ [.ref T2]))) := ((TuS.of sT).trans (TuS.new hT2)).trans (TuS.lst ((same_new hT2) _ _ hws1))
              refine ⟨_, _, rfl, same_upd ((s7.trans sT).trans (same_new hT2)) but_none, _, upd_same, ?_⟩
              rw [take_succ_of he, List.map_append, ← List.append_assoc]
              refine (hPW.mono (fun _ _ h => h.mono tS)).snoc ⟨T2, (i : Nat), y1, rfl, ?_⟩
              rw [upd_ne hT2r]
              exact upd_same
          · rintro σ Hc ⟨o9, o10, rfl, s7, ws, hws, hPW⟩
            refine ⟨_, _, _, rfl, s36.trans s7, ws, hws, ?_⟩
            rw [lk5, List.take_length] at hPW
            rw [List.range_succ, List.flatMap_append, ← List.append_assoc]
            simpa [freshB] using hPW
        · rintro σ Hc ⟨o8, o9, o10, rfl, sc, vs, hvs, hPF⟩
          refine ⟨_, _, _, _, _, rfl, sc, vs, hvs, ?_⟩
          rw [take_succ_of hr1, List.flatMap_append]
          simpa [freshR] using hPF
      · rintro σ H7 ⟨o6, o7, o8, o9, o10, rfl, sc, vs, hvs, hPF⟩
        rw [lg, List.take_length] at hPF
        have hround' : roundL G row L = (freshG G row EE).foldl insL L := by rw [← hEE]; rfl
        have hF : ∀ f ∈ freshG G row EE, FOk G row f := fun f hf => iterL_sound (n + 1) f (by
          rw [← hround, hround']
          exact mem_insL.mpr (.inr hf))
        have hPF' : Paired (FrV H7) vs (freshG G row EE) := hPF
        clear hPF
        generalize hFF : freshG G row EE = FF at *
        have s27 : Same H2 H7 := hB2.trans sc
        have sH7 : Same H H7 := s2.trans s27
        have hE7 : EndsAt H H7 d EE L.length := hE.mono s27
        have h7f : H7 pf = some (.dT kvs) := s27 _ _ hpf2
        have hdpf : pf ≠ d := Ne.symm hdf
        have sHo : Same H (offE H7 d) := fun b o e => by
          rw [hE7.offOf (by rw [e]; exact fun z => nomatch z)]
          exact sH7 _ _ e
        have sHb : Same H (but (offE H7 d) pf) := same_but sHo hpfH
        have hEb : EndsAt (but (offE H7 d) pf) H7 d EE L.length := hE7.off.base fun b hb => by
          by_cases z : b = pf
          · subst z; exact but_none
          · rw [but_ne z]; exact hb
        have sb7 : Same (but (offE H7 d) pf) H7 := but_same.trans offE_same
        have hbr : but (offE H7 d) pf pr = some (.lst vs) := by
          rw [but_ne (Ne.symm hprf)]
          unfold offE
          rw [if_neg, hvs]
          rintro (z | ⟨kvs', kk, e1, hm⟩)
          · obtain ⟨kv0, hd0, _⟩ := hE.ex
            rw [z, hd0] at hpr
            cases hpr
          · obtain ⟨kv0, hd0, _, _, _, hp0, _⟩ := hE.ex
            rw [s27 _ _ hd0] at e1
            cases e1
            obtain ⟨x, i, l, e', q1, _⟩ := hp0 _ hm
            have : V.ref pr = V.ref l := congrArg Prod.snd e'
            cases this
            have q1' : H2 pr = some _ := q1
            rw [hpr] at q1'
            cases q1'
        have tb : TuS H7 (but (offE H7 d) pf) := fun b xs e => by
          rw [but_ne (ne_of e h7f (fun z => nomatch z))]
          obtain ⟨kv0, hd0, _⟩ := hE7.ex
          exact hE7.offKind (ne_of e hd0 (fun z => nomatch z)) e (fun _ z => nomatch z)
        have hPb : Paired (FrV (but (offE H7 d) pf)) vs FF := hPF'.mono fun _ _ h => h.mono tb
        have hpfb : but (offE H7 d) pf pf = none := but_none
        generalize hHb : but (offE H7 d) pf = Hb at *
        have lvs : vs.length = FF.length := Paired.length hPb
        refine ⟨_, rfl, pr, rfl, ⟨_, SqL.of hvs⟩, for_list (K := K) (a := pr) (xs := vs) (fun t σ Hc => ∃ (b : Bool) (kv : List (List Key × V)) (o6 o7 o8 o9 o10 o11 : Option V), σ = [some (.ref a), some (.ref ra), some (.ref d), some (.ref pf), some (.bl b), some (.ref pr), o6, o7, o8, o9, o10, o11] ∧ Same Hb Hc ∧
            EndsAt Hb Hc d (endsF row.length ((FF.take t).foldl insL L)) ((FF.take t).foldl insL L).length ∧ Hc pf = some (.dT kv) ∧ kv.map (·.1) = ((FF.take t).foldl insL L).map fKey ∧ (b = false → (FF.take t).foldl insL L = L) ∧ (b = true → L.length < ((FF.take t).foldl insL L).length))
          ⟨false, kvs, o6, o7, o8, o9, o10, o11, rfl, sb7, by simpa [hEE] using hEb, h7f, hkk, fun _ => rfl, fun z => nomatch z⟩ (fun t σ Hc _ ⟨_, _, _, _, _, _, _, _, _, s, _⟩ => SqL.of (s _ _ hbr)) ?_ ?_⟩
        · rintro t y σ Hc ht ⟨b, kv, o6, o7, o8, o9, o10, o11, rfl, sbc, hEc, hcf, hck, hbf, hbt⟩
          obtain ⟨g, hg, a', num, cut, rfl, ha'⟩ := paired_get hPb ht
          have hgF : g ∈ FF := List.mem_of_getElem? hg
          have hgO := hF g hgF
          have et : (FF.take (t + 1)).foldl insL L = insL ((FF.take t).foldl insL L) g := by
            rw [take_succ_of hg, List.foldl_append]
            rfl
          have hLtd : ((FF.take t).foldl insL L).Nodup := insL_nd _ _ hnd
          have hLtl : ((FF.take t).foldl insL L).length ≤ 288 := Nat.le_trans (nodup_len hLtd fun f hf => mem_allF ((mem_insL.mp hf).elim (hsound f) fun h => hF f (List.mem_of_mem_take h))) (allF_len S)
          have hLge : L.length ≤ ((FF.take t).foldl insL L).length := insL_len _ _
          rw [et]
          generalize hLt : (FF.take t).foldl insL L = Lt at *
          refine ⟨a', _, rfl, SqT.of (sbc _ _ ha'), rfl, _, _, rfl, _, _, rfl, _, _, rfl, _, _, rfl, _, _, rfl, rfl, ?_⟩
          refine ⟨_, rfl, _, rfl, _, rfl, _, rfl, offE Hc d, d, g.1, g.2.1, g.2.2, _, _, rfl, hEc.off, offE_same, by omega, fun H8 hE8 s8 _ => ?_⟩
          have hcall := hEc.call sbc hE8 s8
          have h8f : H8 pf = some (.dT kv) := s8 _ _ (hEc.offKind hdpf hcf (fun _ z => nomatch z))
          have hmem : g.2.2 ∈ endsF row.length Lt g.1 g.2.1 ↔ g ∈ Lt := by
            rw [mem_endsF]
            exact ⟨fun h => h.1, fun h => ⟨h, hgO.le⟩⟩
          refine ⟨_, rfl, ?_⟩
          by_cases hgL : g ∈ Lt
          · have hm := hmem.mpr hgL
            have ei : insL Lt g = Lt := by unfold insL; rw [if_pos hgL]
            rw [if_pos hm, addE_old hm] at hcall
            rw [decide_eq_true hm, ei]
            exact iteF ⟨b, kv, _, _, _, _, _, _, rfl, hcall.2, hcall.1, h8f, hck, hbf, hbt⟩
          · have hm := fun z => hgL (hmem.mp z)
            have ei : insL Lt g = Lt ++ [g] := by unfold insL; rw [if_neg hgL]
            rw [if_neg hm, ← endsF_snoc hgO.le.1 hgO.le.2] at hcall
            rw [decide_eq_false hm, ei]
            refine iteT ⟨_, rfl, _, rfl, by show 2 ≤ sizeLine; decide, fun T1 hT1 => ⟨_, rfl, _, rfl, _, rfl, _, rfl, by show 3 ≤ sizeLine; decide, fun T2 hT2 => ?_⟩⟩
            have s9 := (same_new (o := .tup [V.int num, cut]) hT1)
            have s10 := s9.trans (same_new (o := .tup [.str g.1, vN g.2.1, vN g.2.2]) hT2)
            have evn : valV kv (fKey g) = none := by
              cases q : valV kv (fKey g) with
              | none => rfl
              | some v => exact absurd (fKey_mem.mp (hck ▸ valV_in q)) hgL
            have lkv : kv.length = Lt.length := by
              have := congrArg List.length hck
              rw [List.length_map, List.length_map] at this
              exact this
            refine ⟨pf, _, rfl, DPut.t (k := fKey g) (s10 _ _ h8f) upd_same (small6 (by omega)), ?_⟩
            rw [putK_new _ evn]
            refine ⟨true, _, _, _, _, _, _, _, rfl, same_upd (hcall.2.trans s10) hpfb, ?_, upd_same, ?_, ?_, ?_⟩
            · rw [List.length_append, List.length_singleton]
              exact (hcall.1.mono s10).wr hdpf (s10 _ _ h8f) (fun _ z => nomatch z)
            · rw [List.map_append, List.map_append, hck]
              rfl
            · exact fun z => nomatch z
            · intro _
              rw [List.length_append, List.length_singleton]
              omega
        · rintro σ Hc ⟨b, kv, o6, o7, o8, o9, o10, o11, rfl, sbc, hEc, hcf, hck, hbf, hbt⟩
          rw [lvs, List.take_length] at hEc hck hbf hbt
          rw [← hround', hround] at hEc hck hbf hbt
          have lkv : kv.length = (iterL G row (n + 1)).length := by
            have := congrArg List.length hck
            rw [List.length_map, List.length_map] at this
            exact this
          have lkv0 : kvs.length = L.length := by
            have := congrArg List.length hkk
            rw [List.length_map, List.length_map] at this
            exact this
          have h288 := iterL_len S (n + 1)
          refine ⟨⟨b, n + 1, kv, _, _, _, _, _, _, _, rfl, sHb.trans sbc, hEc.base fun b hb => ?_, hcf, hck, fun z => ?_⟩, ?_⟩
          · cases q : H b with
            | none => rfl
            | some o => rw [sHb _ _ q] at hb; cases hb
          · rw [hbf z]; exact hround.trans (hbf z)
          · rw [muF_t (kvs := kvs) rfl hpf2]
            cases b with
            | false => rw [muF_f rfl]; omega
            | true =>
              have := hbt rfl
              rw [muF_t (kvs := kv) rfl hcf]
              omega
end
end Rg
namespace Rg
open PySem PySem.Spec L2
def sortF (L : List Fct) : List Fct := L.mergeSort (PySem.W.dataLe false eFct)
def sortW (L : List Way) : List Way := L.mergeSort (PySem.W.dataLe false eWay)
theorem keysIs {H : Hp} : ∀ {out : List Addr} {L : List Fct}, Paired (fun v b => H v = some (.tup ((fKey b).map kV))) out L → IsL H (out.map V.ref) (L.map eFct)
  | _, _, .nil => .nil
  | _, _, .cons h t => .cons (.tup h (.cons (.str _) (.cons (.int _) (.cons (.int _) .nil)))) (keysIs t)
theorem pairedIs {H : Hp} {β : Type} {enc : β → PyData} : ∀ {vs : List V} {L : List β}, IsL H vs (L.map enc) → Paired (fun v b => Is H v (enc b)) vs L
  | _, [], h => by rw [h.nil_inv]; exact .nil
  | _, b :: L, h => by
    obtain ⟨v, vs, rfl, h1, h2⟩ := h.cons_inv
    exact .cons h1 (pairedIs h2)
theorem isPaired {H : Hp} {β : Type} {enc : β → PyData} : ∀ {vs : List V} {L : List β}, Paired (fun v b => Is H v (enc b)) vs L → IsL H vs (L.map enc)
  | _, _, .nil => .nil
  | _, _, .cons h t => .cons h (isPaired t)
theorem eFct_dep (f : Fct) : (eFct f).depth ≤ 8 := by
  simp [eFct, PyData.depth, PyData.depthAll]
def partsK (ps : List Str) (c : List Nat) (k : Nat) : List Fct := (List.range k).flatMap fun k => match ps[k]?, c[k]?, c[k + 1]? with
  | some x, some i, some j => if isN x = true then [(x, i, j)] else []
  | _, _, _ => []
def partsF (ps : List Str) (c : List Nat) : List Fct := partsK ps c ps.length
def partsW (G : Gr) (w : Way) : List Fct := match G[w.1]? with
  | some r => partsF r.ps w.2
  | none => []
/-- a way of a grammar -/
def WOk (G : Gr) (w : Way) : Prop := ∃ r, G[w.1]? = some r ∧ w.2.length = r.ps.length + 1
theorem isWay {H : Hp} {v : V} {w : Way} (h : Is H v (eWay w)) : ∃ a ca, v = .ref a ∧ H a = some (.tup [.int (w.1 : Int), .ref ca]) ∧ H ca = some (.tup (w.2.map vN)) := by
  obtain ⟨a, xs, rfl, ha, hx⟩ := h.tup_inv
  obtain ⟨v1, r1, rfl, b1, hx⟩ := hx.cons_inv
  obtain ⟨v2, r2, rfl, b2, hx⟩ := hx.cons_inv
  rw [hx.nil_inv, b1.int_inv] at ha
  obtain ⟨ca, ys, rfl, hc, hy⟩ := b2.tup_inv
  rw [hy.ints_inv] at hc
  exact ⟨a, ca, rfl, ha, hc⟩
section
variable {P : Program} {w : World} {K : PySem.W.Frag} {mg : Str → Option Value} {base : Heap} {f : Addr} {fd : FuncData}
def sp_facts : Sp := fun vs H Q _ => ∃ (a ra : Addr) (G : Gr) (row : List Str), vs = [.ref a, .ref ra] ∧ LD H a (G.map eRl) ∧ WL H ra row ∧ Sized G row ∧
  ∀ H' p L, Same H H' → H p = none → IsFound G row L → LD H' p ((sortF L).map eFct) → Q (.ref p) H'
theorem ok_facts (F : Fun K "facts" "facts" st_facts f fd) (B : Bl mg) (Cf : Cal P w K mg base 4 "found_facts" ["grammar", "row"] sp_found_facts) : FnOk P w K mg base CX0 5 f fd ["grammar", "row"] sp_facts := by
  refine F.ok sc_facts (fun vs H Q E h => ?_) (fun cdv A outer s H vs Q E hr h => ?_)
  · obtain ⟨a, ra, G, row, rfl, _⟩ := h
    rfl
  · obtain ⟨a, ra, G, row, rfl, hG, hrow, S, k⟩ := h
    refine ⟨_, pss_one (ps_ret (pe_callB (cr_srtD (key := fKey) (enc := eFct) rfl (Nat.lt_of_le_of_lt (Nat.add_le_add_left (by decide : 10 ≤ 64) _) hr.units)) rfl B.sorted PyProof.Rows.boot_sorted (pa_cons (pe_cal Cf hr rfl (pa_cons (pv 0) (pa_cons (pv 1) pa_nil))) pa_nil) (by decide) (by decide))), ?_⟩
    refine ⟨_, rfl, _, rfl, a, ra, G, row, rfl, hG, hrow, S, fun H' p kvs L s1 hp hd hL hk => ?_⟩
    refine ⟨p, kvs, L, rfl, .inl hd, hk, fun _ => rfl, PySem.W.AllAlike.of (fun _ _ => rfl), PySem.W.Sortable.tuples (fun b => ⟨_, _, rfl⟩), fun _ _ => eFct_dep _, fun q out hq ho => ?_⟩
    refine k _ q L (same_upd s1 (s1.free hq)) (s1.free hq) hL ⟨_, upd_same, (keysIs ho).mono (same_new hq)⟩
def sp_parts_of : Sp := fun vs H Q _ => ∃ (a wa : Addr) (G : Gr) (w : Way), vs = [.ref a, .ref wa] ∧ LD H a (G.map eRl) ∧ Is H (.ref wa) (eWay w) ∧ WOk G w ∧ (∀ r ∈ G, r.ps.length ≤ 4 ∧ ∀ p ∈ r.ps, p.length < 1000) ∧
  ∀ H' p, Same H H' → H p = none → LD H' p ((partsW G w).map eFct) → Q (.ref p) H'
theorem partsK_len (ps : List Str) (c : List Nat) (k : Nat) : (partsK ps c k).length ≤ k := by
  unfold partsK
  refine Nat.le_trans (flatMap_len (m := 1) (fun k => ?_) _) (by rw [List.length_range]; omega)
  split
  · split <;> simp
  · simp
theorem ok_parts_of (F : Fun K "parts_of" "parts_of" st_parts_of f fd) (B : Bl mg) (Ci : Cal P w K mg base 1 "is_name" ["part"] sp_is_name) : FnOk P w K mg base CX0 2 f fd ["grammar", "way"] sp_parts_of := by
  refine F.ok sc_parts_of (fun vs H Q E h => ?_) (fun cdv A outer s H vs Q E hr h => ?_)
  · obtain ⟨a, wa, G, w, rfl, _⟩ := h
    rfl
  · obtain ⟨a, wa, G, w, rfl, ⟨gvs, hgv, hG⟩, hw, ⟨r, hr1, hlen⟩, hS, k⟩ := h
    have nd := sc_parts_of.nd
    have hu := hu_of hr
    refine ⟨_, pss_cons (ps_asg (pv 1) (pg_tup rfl (pgs_cons (pg_name (i := 2) nd rfl (Or.inl rfl)) (pgs_cons (pg_name (i := 3) nd rfl (Or.inl rfl)) pgs_nil))))
      (pss_cons (ps_set (i := 4) nd rfl (Or.inl rfl) (pe_lst pa_nil))
      (pss_cons (ps_for PassesOwn.never rfl (pi_enumT rfl B.enumerate (pa_cons (pe_ix ix_tup (pe_ix ix_list (pv 0) (pv 2) (fun _ _ => rfl)) pe_int (fun _ _ => rfl)) pa_nil)) (pg_tup rfl (pgs_cons (pg_name (i := 5) nd rfl (Or.inl rfl)) (pgs_cons (pg_name (i := 6) nd rfl (Or.inl rfl)) pgs_nil)))
        (pss_one (ps_if (pt_val (pe_cal Ci hr rfl (pa_cons (pv 6) pa_nil))) (pss_one (ps_expr (pe_app (pv 4) (pe_tup (pa_cons (pv 6) (pa_cons (pe_ix ix_tup (pv 3) (pv 5) (fun _ _ => rfl)) (pa_cons (pe_ix ix_tup (pv 3) (pe_op op_add (pv 5) pe_int) (fun _ _ => rfl)) pa_nil))))))) pss_nil)))
      (pss_one (ps_ret (pv 4))))), ?_⟩
    obtain ⟨wa', ca, e, hwa, hca⟩ := isWay hw
    cases e
    obtain ⟨b, pa, hb1, hb, hpa⟩ := getRl' hG hr1
    have hrG : r ∈ G := List.mem_of_getElem? hr1
    have hp4 := (hS r hrG).1
    refine ⟨_, rfl, wa, _, rfl, SqT.of hwa, rfl, _, _, rfl, _, _, rfl, rfl, by decide, fun pf hpf => ?_⟩
    have s0 : Same H (upd H pf (.lst [])) := same_new hpf
    refine ⟨_, rfl, _, rfl, a, gvs, _, _, rfl, rfl, SqL.of (s0 _ _ hgv), atI_nat hb1, b, _, 1, _, rfl, rfl, SqT.of (s0 _ _ hb), atI_nat (j := 1) rfl, pa, _, rfl, SqT.of (s0 _ _ hpa), ?_⟩
    refine for_it (walk_enumT (xs := r.ps.map V.str)) (fun i σ Hc => ∃ (o5 o6 : Option V), σ = [some (.ref a), some (.ref wa), some (.int (w.1 : Int)), some (.ref ca), some (.ref pf), o5, o6] ∧ Same H Hc ∧ LD Hc pf ((partsK r.ps w.2 i).map eFct))
      ⟨none, none, rfl, s0, [], upd_same, .nil⟩ (fun i σ Hc _ ⟨_, _, _, s, _⟩ => SqT.of (s _ _ hpa)) ?_ ?_
    · rintro i v σ Hc Hc' hil ⟨o5, o6, rfl, sc, us, hus, hU⟩ ⟨T, x1, y1, rfl, hT, rfl, e1, e2⟩
      cases e1
      replace e2 : (r.ps.map V.str)[i]? = some y1 := e2
      rw [List.getElem?_map] at e2
      rw [List.length_map] at hil
      rw [List.getElem?_eq_getElem hil] at e2
      cases e2
      have hxs : r.ps[i].length < 1000 := (hS r hrG).2 _ (List.getElem_mem hil)
      have ex : r.ps[i]? = some r.ps[i] := List.getElem?_eq_getElem hil
      obtain ⟨p1, hp1⟩ : ∃ p1, w.2[i]? = some p1 := ⟨_, List.getElem?_eq_getElem (by omega)⟩
      obtain ⟨p2, hp2⟩ : ∃ p2, w.2[i + 1]? = some p2 := ⟨_, List.getElem?_eq_getElem (by omega)⟩
      generalize hx : r.ps[i] = x at *
      have sT : Same Hc (upd Hc T (.tup [.int (i : Nat), .str x])) := same_new hT
      have et : partsK r.ps w.2 (i + 1) = partsK r.ps w.2 i ++ (if isN x = true then [(x, p1, p2)] else []) := by
        unfold partsK
        rw [List.range_succ, List.flatMap_append, List.flatMap_cons, List.flatMap_nil, List.append_nil, ex, hp1, hp2]
      have lp := partsK_len r.ps w.2 i
      have lu := hU.length
      rw [List.length_map] at lu
      refine ⟨T, _, rfl, SqT.of upd_same, rfl, _, _, rfl, _, _, rfl, rfl, _, rfl, x, rfl, hxs, _, rfl, ?_⟩
      generalize hHT : upd Hc T (.tup [.int (i : Nat), .str x]) = HT at *
      have husT := sT _ _ hus
      rw [et]
      cases en : isN x with
      | false =>
        refine iteF ⟨_, _, rfl, sc.trans sT, us, husT, ?_⟩
        simpa using hU.mono sT
      | true =>
        have hcT := sT _ _ (sc _ _ hca)
        refine iteT ⟨_, rfl, .inl ⟨rfl, _, SqL.of husT⟩, _, rfl, _, rfl, _, rfl, ca, _, _, _, rfl, rfl, SqT.of hcT, atI_nat (v := vN p1) (by rw [List.getElem?_map, hp1]; rfl), _, rfl, _, rfl, _, _, rfl, rfl, ca, _, _, _, rfl, rfl, SqT.of hcT, atI_nat (j := i + 1) (v := vN p2) (by rw [List.getElem?_map, hp2]; rfl), by show 3 ≤ sizeLine; decide, fun T2 hT2 => ?_⟩
        have s2 : Same HT (upd HT T2 (.tup [.str x, vN p1, vN p2])) := same_new hT2
        have hT2p : T2 ≠ pf := fun z => by subst z; rw [husT] at hT2; cases hT2
        refine ⟨pf, us, _, rfl, rfl, s2 _ _ husT, small6 (by omega), _, _, rfl, same_upd ((sc.trans sT).trans s2) hpf, _, upd_same, ?_⟩
        rw [if_pos rfl, List.map_append]
        refine (hU.monoT ((TuS.of (sT.trans s2)).trans (TuS.lst (s2 _ _ husT)))).append (.cons (.tup (by rw [upd_ne hT2p]; exact upd_same) (.cons (.str _) (.cons (.int _) (.cons (.int _) .nil)))) .nil)
    · rintro σ Hc ⟨o5, o6, rfl, sc, hL⟩
      rw [List.length_map] at hL
      refine ⟨_, rfl, k Hc pf sc hpf ?_⟩
      unfold partsW
      rw [hr1]
      exact hL
end
end Rg
namespace Rg
open PySem PySem.Spec L2
def waysN (G : Gr) (row : List Str) (E : Str → Nat → List Nat) (b e : Nat) (n : Nat) : List Way := match G[n]? with
  | some r => ((cutsFrom row E r.ps b e).filter fun c => decide (c.getLastD 0 = e)).map fun c => (n, c)
  | none => []
def waysRaw (G : Gr) (row : List Str) (E : Str → Nat → List Nat) (f : Fct) : List Way := (rulesOf G f.1).flatMap (waysN G row E f.2.1 f.2.2)
def waysOf (G : Gr) (row : List Str) (E : Str → Nat → List Nat) (f : Fct) : List Way := sortW (waysRaw G row E f)
theorem alike_ints : ∀ c c' : List Nat, PySem.W.alikeAll (c.map dN) (c'.map dN) = true
  | [], c' => by cases c' <;> rfl
  | _ :: _, [] => rfl
  | a :: c, b :: c' => by
    show (PySem.W.alike (dN a) (dN b) && PySem.W.alikeAll (c.map dN) (c'.map dN)) = true
    rw [alike_ints c c']
    rfl
theorem alike_ways (b b' : Way) : PySem.W.alike (eWay b) (eWay b') = true := by
  show (true && (PySem.W.alikeAll (b.2.map dN) (b'.2.map dN) && true)) = true
  rw [alike_ints]
  rfl
theorem dep_ints : ∀ c : List Nat, PyData.depthAll (c.map dN) ≤ 1
  | [] => Nat.zero_le _
  | a :: c => by
    have := dep_ints c
    simp only [List.map_cons, PyData.depthAll, PyData.depth]
    omega
theorem eWay_dep (b : Way) : (eWay b).depth ≤ 8 := by
  have := dep_ints b.2
  simp only [eWay, eNats, PyData.depth, PyData.depthAll]
  omega
theorem cr_srtA {X : Cx} {β : Type} {enc : β → PyData} (hu : X.A.units + 10 < cLine) : CallR X (.builtin "sorted") (fun xs H Q => ∃ S : V → β → Prop, rSrtL X.K S enc xs H Q) := fun pins s σ H xs us Q I r ⟨S, q⟩ => cr_srtL (S := S) hu pins s σ H xs us Q I r q
theorem isFct {H : Hp} {v : V} {f : Fct} (h : Is H v (eFct f)) : ∃ a, v = .ref a ∧ H a = some (.tup [.str f.1, vN f.2.1, vN f.2.2]) := by
  obtain ⟨a, xs, rfl, ha, hx⟩ := h.tup_inv
  obtain ⟨v1, r1, rfl, b1, hx⟩ := hx.cons_inv
  obtain ⟨v2, r2, rfl, b2, hx⟩ := hx.cons_inv
  obtain ⟨v3, r3, rfl, b3, hx⟩ := hx.cons_inv
  rw [hx.nil_inv, b1.str_inv, b2.int_inv, b3.int_inv] at ha
  exact ⟨a, rfl, ha⟩
theorem cutsFrom_len {row : List Str} {E : Str → Nat → List Nat} (h : ∀ x i, (E x i).length ≤ 8) {ps : List Str} (hp : ps.length ≤ 4) (b e : Nat) : (cutsFrom row E ps b e).length ≤ 4096 := by
  have h1 := cuts_len h (row := row) e ps [[b]]
  have h3 : 8 ^ ps.length ≤ 8 ^ 4 := Nat.pow_le_pow_right (by decide) hp
  unfold cutsFrom
  simp only [List.length_cons, List.length_nil] at h1
  omega
theorem rulesOf_len (G : Gr) (x : Str) : (rulesOf G x).length ≤ G.length := by
  unfold rulesOf
  refine Nat.le_trans (List.length_filter_le _ _) ?_
  rw [List.length_range]
  exact Nat.le_refl _
theorem rulesOf_mem {G : Gr} {x : Str} {n : Nat} (h : n ∈ rulesOf G x) : ∃ r, G[n]? = some r ∧ r.nm = x := by
  unfold rulesOf at h
  have h1 := (List.mem_filter.mp h).2
  unfold isOf at h1
  cases q : G[n]? with
  | none => rw [q] at h1; cases h1
  | some r =>
    rw [q] at h1
    exact ⟨r, rfl, by simpa using h1⟩
section
variable {P : Program} {w : World} {K : PySem.W.Frag} {mg : Str → Option Value} {base : Heap} {f : Addr} {fd : FuncData}
def sp_ways_of : Sp := fun vs H Q _ => ∃ (a ra d fa : Addr) (G : Gr) (row : List Str) (H0 : Hp) (E : Str → Nat → List Nat) (m : Nat) (g : Fct), vs = [.ref a, .ref ra, .ref d, .ref fa] ∧ LD H a (G.map eRl) ∧ WL H ra row ∧ Sized G row ∧ EndsAt H0 H d E m ∧ (∀ x i, (E x i).length ≤ 8) ∧ Is H (.ref fa) (eFct g) ∧
  ∀ H' p, Same H H' → H p = none → LD H' p ((waysOf G row E g).map eWay) → Q (.ref p) H'
theorem ok_ways_of (F : Fun K "ways_of" "ways_of" st_ways_of f fd) (B : Bl mg) (Cr : Cal P w K mg base 1 "rules_of" ["grammar", "name"] sp_rules_of) (Cc : Cal P w K mg base 3 "cuts_from" ["row", "ends", "parts", "begin", "last"] sp_cuts_from) :
    FnOk P w K mg base CX0 4 f fd ["grammar", "row", "ends", "fact"] sp_ways_of := by
  refine F.ok sc_ways_of (fun vs H Q E h => ?_) (fun cdv A outer s H vs Q E hr h => ?_)
  · obtain ⟨a, ra, d, fa, G, row, H0, E, m, g, rfl, _⟩ := h
    rfl
  · obtain ⟨a, ra, d, fa, G, row, H0, E, m, g, rfl, ⟨gvs, hgv, hG⟩, hrow, S, hE, h8, hfa, k⟩ := h
    have nd := sc_ways_of.nd
    have hu := hu_of hr
    refine ⟨_, pss_cons (ps_asg (pv 3) (pg_tup rfl (pgs_cons (pg_name (i := 4) nd rfl (Or.inl rfl)) (pgs_cons (pg_name (i := 5) nd rfl (Or.inl rfl)) (pgs_cons (pg_name (i := 6) nd rfl (Or.inl rfl)) pgs_nil)))))
      (pss_cons (ps_set (i := 7) nd rfl (Or.inl rfl) (pe_lst pa_nil))
      (pss_cons (ps_for PassesOwn.never rfl (pi_list (pe_cal Cr (hr.mono (by decide)) rfl (pa_cons (pv 0) (pa_cons (pv 4) pa_nil)))) (pg_name (i := 8) nd rfl (Or.inl rfl))
        (pss_one (ps_for PassesOwn.never rfl (pi_list (pe_cal Cc hr rfl (pa_cons (pv 1) (pa_cons (pv 2) (pa_cons (pe_ix ix_tup (pe_ix ix_list (pv 0) (pv 8) (fun _ _ => rfl)) pe_int (fun _ _ => rfl)) (pa_cons (pv 5) (pa_cons (pv 6) pa_nil))))))) (pg_name (i := 9) nd rfl (Or.inl rfl))
          (pss_one (ps_if (pt_cmpR op_eq (pe_ix ix_tup (pv 9) (pe_un un_neg pe_int) (fun _ _ => rfl)) (pv 6) (nomark _)) (pss_one (ps_expr (pe_app (pv 7) (pe_tup (pa_cons (pv 8) (pa_cons (pv 9) pa_nil)))))) pss_nil)))))
      (pss_one (ps_ret (pe_callB (cr_srtA (enc := eWay) (Nat.lt_of_le_of_lt (Nat.add_le_add_left (by decide : 10 ≤ 64) _) hr.units)) rfl B.sorted PyProof.Rows.boot_sorted (pa_cons (pv 7) pa_nil) (by decide) (by decide)))))), ?_⟩
    obtain ⟨fa', e, hfa2⟩ := isFct hfa
    cases e
    have hgl := S.gl
    have lg := hG.length
    rw [List.length_map] at lg
    refine ⟨_, rfl, fa, _, rfl, SqT.of hfa2, rfl, _, _, rfl, _, _, rfl, _, _, rfl, rfl, by decide, fun pf hpf => ?_⟩
    have s0 : Same H (upd H pf (.lst [])) := same_new hpf
    generalize hH1 : upd H pf (.lst []) = H1 at *
    have h1f : H1 pf = some (.lst []) := by rw [← hH1]; exact upd_same
    refine ⟨_, rfl, _, rfl, a, G, g.1, rfl, ⟨gvs, s0 _ _ hgv, hG.mono s0⟩, by omega, fun H2 pn s12 hpn hNL => ?_⟩
    have h2f : H2 pf = some (.lst []) := s12 _ _ h1f
    have hnf : pn ≠ pf := fun z => by subst z; rw [h1f] at hpn; cases hpn
    have sHb : Same H (but H2 pf) := same_but (s0.trans s12) hpf
    have hNLb : but H2 pf pn = some (.lst ((rulesOf G g.1).map vN)) := by rw [but_ne hnf]; exact hNL
    have hrl := rulesOf_len G g.1
    have lbN : ∀ n, (waysN G row E g.2.1 g.2.2 n).length ≤ 4096 := fun n => by
      unfold waysN
      split
      · rename_i r hr'
        rw [List.length_map]
        exact Nat.le_trans (List.length_filter_le _ _) (cutsFrom_len h8 (S.pl r (List.mem_of_getElem? hr')) _ _)
      · exact Nat.zero_le _
    refine ⟨pn, rfl, ⟨_, SqL.of hNL⟩, for_list (K := K) (a := pn) (xs := (rulesOf G g.1).map vN) (fun i σ Hc => ∃ (o8 o9 : Option V), σ = [some (.ref a), some (.ref ra), some (.ref d), some (.ref fa), some (.str g.1), some (.int (g.2.1 : Int)), some (.int (g.2.2 : Int)), some (.ref pf), o8, o9] ∧ Same (but H2 pf) Hc ∧
        LD Hc pf ((((rulesOf G g.1).take i).flatMap (waysN G row E g.2.1 g.2.2)).map eWay))
      ⟨none, none, rfl, but_same, [], h2f, .nil⟩ (fun i σ Hc _ ⟨_, _, _, s, _⟩ => SqL.of (s _ _ hNLb)) ?_ ?_⟩
    · rintro i y σ Hc hi ⟨o8, o9, rfl, sc, us, hus, hU⟩
      rw [List.getElem?_map] at hi
      cases ei : (rulesOf G g.1)[i]? with
      | none => rw [ei] at hi; cases hi
      | some n =>
        rw [ei] at hi
        cases hi
        obtain ⟨r, hr1, hrn⟩ := rulesOf_mem (List.mem_of_getElem? ei)
        have hrG : r ∈ G := List.mem_of_getElem? hr1
        obtain ⟨b, pa, hb1, hb, hpa⟩ := getRl' hG hr1
        have sH : Same H Hc := sHb.trans sc
        have hil : i < (rulesOf G g.1).length := (List.getElem?_eq_some_iff.mp ei).1
        have lU := hU.length
        rw [List.length_map] at lU
        have lB : (((rulesOf G g.1).take i).flatMap (waysN G row E g.2.1 g.2.2)).length ≤ 32768 := by
          refine Nat.le_trans (flatMap_len lbN _) ?_
          rw [List.length_take]
          omega
        rw [take_succ_of ei, List.flatMap_append, List.flatMap_cons, List.flatMap_nil, List.append_nil]
        generalize hBase : ((rulesOf G g.1).take i).flatMap (waysN G row E g.2.1 g.2.2) = BB at *
        refine ⟨_, rfl, _, rfl, _, rfl, _, rfl, a, gvs, _, _, rfl, rfl, SqL.of (sH _ _ hgv), atI_nat hb1, b, _, 1, _, rfl, rfl, SqT.of (sH _ _ hb), atI_nat (j := 1) rfl, _, rfl, _, rfl, ra, d, pa, g.2.1, g.2.2, row, r.ps, H0, E, m, rfl, sH _ _ hrow, hE.mono sH, sH _ _ hpa, S.pl r hrG, (S.sh r hrG).2, h8, fun H3 q s3 hq hC => ?_⟩
        have ewn : waysN G row E g.2.1 g.2.2 n = ((cutsFrom row E r.ps g.2.1 g.2.2).filter fun c => decide (c.getLastD 0 = g.2.2)).map fun c => (n, c) := by
          unfold waysN
          rw [hr1]
        rw [ewn]
        have hCn : ∀ c ∈ cutsFrom row E r.ps g.2.1 g.2.2, c ≠ [] := cuts_ne _ _ (by simp)
        have hCl := cutsFrom_len h8 (row := row) (S.pl r hrG) g.2.1 g.2.2
        generalize hC' : cutsFrom row E r.ps g.2.1 g.2.2 = C at *
        obtain ⟨cs, hcs, hCS⟩ := hC
        have lcs := hCS.length
        rw [List.length_map] at lcs
        have h3f : H3 pf = some (.lst us) := s3 _ _ hus
        have hqf : q ≠ pf := fun z => by subst z; rw [hus] at hq; cases hq
        have hqb : but H3 pf q = some (.lst cs) := by rw [but_ne hqf]; exact hcs
        have s23 : Same (but H2 pf) (but H3 pf) := same_but (sc.trans s3) but_none
        have tb : TuS H3 (but H3 pf) := fun b xs e => but_of e h3f (fun z => nomatch z)
        have hCSb : IsL (but H3 pf) cs (C.map eNats) := hCS.monoT tb
        refine ⟨q, rfl, ⟨_, SqL.of hcs⟩, for_list (K := K) (a := q) (xs := cs) (fun t σ Hc => ∃ (o9 : Option V), σ = [some (.ref a), some (.ref ra), some (.ref d), some (.ref fa), some (.str g.1), some (.int (g.2.1 : Int)), some (.int (g.2.2 : Int)), some (.ref pf), some (.int (n : Int)), o9] ∧ Same (but H3 pf) Hc ∧
            LD Hc pf ((BB ++ ((C.take t).filter fun c => decide (c.getLastD 0 = g.2.2)).map fun c => (n, c)).map eWay))
          ⟨o9, rfl, but_same, us, h3f, by simpa using hU.mono s3⟩ (fun t σ Hc _ ⟨_, _, s, _⟩ => SqL.of (s _ _ hqb)) ?_ ?_⟩
        · rintro t y σ Hc ht ⟨o9, rfl, s4, ws, hws, hW⟩
          obtain ⟨c, ca, hc, rfl, hca⟩ := getNats hCSb ht
          have hca4 := s4 _ _ hca
          have lw := hW.length
          rw [List.length_map, List.length_append, List.length_map] at lw
          have hfl : ((C.take t).filter fun c => decide (c.getLastD 0 = g.2.2)).length ≤ 4096 := Nat.le_trans (List.length_filter_le _ _) (by rw [List.length_take]; omega)
          refine ⟨_, rfl, _, rfl, ca, _, -1, _, rfl, rfl, SqT.of hca4, last_at (hCn c (List.mem_of_getElem? hc)), _, rfl, rfl, _, rfl, ?_⟩
          rw [take_succ_of hc, List.filter_append]
          by_cases hl : c.getLastD 0 = g.2.2
          · rw [decide_eq_true (show V.int (c.getLastD 0 : Int) = V.int (g.2.2 : Int) by rw [hl])]
            refine iteT ⟨_, rfl, .inl ⟨rfl, _, SqL.of hws⟩, _, rfl, _, rfl, by show 2 ≤ sizeLine; decide, fun T hT => ?_⟩
            have hTf : T ≠ pf := fun z => by subst z; rw [hws] at hT; cases hT
            have sT : Same Hc (upd Hc T (.tup [.int (n : Int), .ref ca])) := same_new hT
            refine ⟨pf, ws, _, rfl, rfl, sT _ _ hws, small6 (by omega), _, rfl, same_upd (s4.trans sT) but_none, _, upd_same, ?_⟩
            rw [List.filter_cons_of_pos (by simpa using hl), List.filter_nil]
            rw [show ∀ (A : List Way) (B : List (List Nat)), (A ++ (B ++ [c]).map fun c => (n, c)).map eWay = (A ++ B.map fun c => (n, c)).map eWay ++ [eWay (n, c)] from fun A B => by simp]
            refine (hW.monoT ((TuS.of sT).trans (TuS.lst (sT _ _ hws)))).append (.cons (.tup (by rw [upd_ne hTf]; exact upd_same) (.cons (.int _) (.cons (.tup (xs := c.map vN) ?_ (IsL.ints _)) .nil))) .nil)
            rw [upd_ne (ne_of (sT _ _ hca4) (sT _ _ hws) (fun z => nomatch z))]
            exact sT _ _ hca4
          · rw [decide_eq_false (show ¬ V.int (c.getLastD 0 : Int) = V.int (g.2.2 : Int) from fun z => hl (by have := V.int.inj z; omega))]
            refine iteF ⟨_, rfl, s4, ws, hws, ?_⟩
            rw [List.filter_cons_of_neg (by simpa using hl)]
            simpa using hW
        · rintro σ Hc ⟨o9, rfl, s4, hL⟩
          rw [lcs, List.take_length] at hL
          exact ⟨_, _, rfl, s23.trans s4, hL⟩
    · rintro σ Hc ⟨o8, o9, rfl, sc, us, hus, hU⟩
      rw [List.length_map, List.take_length] at hU
      have hU' : IsL Hc us ((waysRaw G row E g).map eWay) := hU
      refine ⟨_, rfl, fun v b => Is Hc v (eWay b), pf, us, _, rfl, SqL.of hus, pairedIs hU', fun v b h => h.dp K, PySem.W.AllAlike.of alike_ways, PySem.W.Sortable.tuples (fun b => ⟨_, _, rfl⟩), fun b _ => eWay_dep b, fun p out hp ho => ?_⟩
      have sH : Same H Hc := sHb.trans sc
      exact k _ p (sH.trans (same_new hp)) (sH.free hp) ⟨out, upd_same, (isPaired ho).mono (same_new hp)⟩
end
end Rg
namespace Rg
open PySem PySem.Spec L2
/-! ### the grove: the plain side -/
inductive Cut (row : List Str) (E : Str → Nat → List Nat) (last : Nat) : List Str → Nat → List Nat → Prop
  | nil (b : Nat) : Cut row E last [] b [b]
  | cons {x : Str} {ps : List Str} {b j : Nat} {c : List Nat} : j ∈ behind row E x b → j ≤ last → Cut row E last ps j c → Cut row E last (x :: ps) b (b :: c)
theorem mem_cutStep {row : List Str} {E : Str → Nat → List Nat} {last : Nat} {x : Str} {C : List (List Nat)} {c0 : List Nat} {b : Nat} : c0 ++ [b] ∈ cutStep row E last C x ↔ c0 ∈ C ∧ b ∈ behind row E x (c0.getLastD 0) ∧ b ≤ last := by
  unfold cutStep cutOne
  rw [List.mem_flatMap]
  constructor
  · rintro ⟨c, hc, h⟩
    obtain ⟨p, hp, e⟩ := List.mem_map.mp h
    obtain ⟨e1, e2⟩ := List.append_inj' e rfl
    cases e2
    subst e1
    obtain ⟨h1, h2⟩ := List.mem_filter.mp hp
    exact ⟨hc, h1, by simpa using h2⟩
  · rintro ⟨h1, h2, h3⟩
    exact ⟨c0, h1, List.mem_map.mpr ⟨b, List.mem_filter.mpr ⟨h2, by simpa using h3⟩, rfl⟩⟩
theorem snoc_of {c : List Nat} (h : c ≠ []) : ∃ c0 b, c = c0 ++ [b] := ⟨c.dropLast, c.getLast h, (List.dropLast_concat_getLast h).symm⟩
theorem lastD_snoc (c : List Nat) (b : Nat) : (c ++ [b]).getLastD 0 = b := by simp
theorem mem_cutsC {row : List Str} {E : Str → Nat → List Nat} {last : Nat} {c : List Nat} : ∀ {ps : List Str} {C : List (List Nat)}, (∀ c ∈ C, c ≠ []) →
    (c ∈ ps.foldl (cutStep row E last) C ↔ ∃ c0 b c1, c0 ++ [b] ∈ C ∧ Cut row E last ps b c1 ∧ c = c0 ++ c1)
  | [], C, h => by
    constructor
    · intro hc
      obtain ⟨c0, b, rfl⟩ := snoc_of (h c hc)
      exact ⟨c0, b, [b], hc, .nil b, rfl⟩
    · rintro ⟨c0, b, c1, h1, h2, rfl⟩
      cases h2
      exact h1
  | x :: ps, C, h => by
    rw [List.foldl_cons, mem_cutsC cutStep_ne]
    constructor
    · rintro ⟨c0, b, c1, h1, h2, rfl⟩
      obtain ⟨h3, h4, h5⟩ := mem_cutStep.mp h1
      obtain ⟨d, a, rfl⟩ := snoc_of (h c0 h3)
      rw [lastD_snoc] at h4
      exact ⟨d, a, a :: c1, h3, .cons h4 h5 h2, by simp⟩
    · rintro ⟨c0, b, c1, h1, h2, rfl⟩
      cases h2 with
      | cons h3 h4 h5 =>
        rename_i j c
        exact ⟨c0 ++ [b], j, c, mem_cutStep.mpr ⟨h1, by rw [lastD_snoc]; exact h3, h4⟩, h5, by simp⟩
theorem mem_cutsFrom {row : List Str} {E : Str → Nat → List Nat} {ps : List Str} {b last : Nat} {c : List Nat} : c ∈ cutsFrom row E ps b last ↔ Cut row E last ps b c := by
  unfold cutsFrom
  rw [mem_cutsC (by simp)]
  constructor
  · rintro ⟨c0, b', c1, h1, h2, rfl⟩
    have h1' := List.mem_singleton.mp h1
    obtain ⟨e1, e2⟩ := List.append_inj' (show c0 ++ [b'] = [] ++ [b] from h1') rfl
    cases e2
    subst e1
    exact h2
  · intro h
    exact ⟨[], b, c, by simp, h, rfl⟩
theorem Cut.len {row : List Str} {E : Str → Nat → List Nat} {last : Nat} : ∀ {ps : List Str} {b : Nat} {c : List Nat}, Cut row E last ps b c → c.length = ps.length + 1
  | _, _, _, .nil b => rfl
  | _, _, _, .cons _ _ h => by rw [List.length_cons, List.length_cons, h.len]
theorem Cut.head {row : List Str} {E : Str → Nat → List Nat} {last : Nat} {ps : List Str} {b : Nat} {c : List Nat} (h : Cut row E last ps b c) : ∃ c', c = b :: c' := by
  cases h with
  | nil => exact ⟨_, rfl⟩
  | cons _ _ _ => exact ⟨_, rfl⟩
theorem partsF_cons (x : Str) (ps : List Str) (b j : Nat) (c : List Nat) : partsF (x :: ps) (b :: j :: c) = (if isN x = true then [(x, b, j)] else []) ++ partsF ps (j :: c) := by
  unfold partsF partsK
  rw [List.length_cons, List.range_succ_eq_map, List.flatMap_cons, List.flatMap_map]
  rfl
theorem Cut.parts {row : List Str} {L : List Fct} {n last : Nat} : ∀ {ps : List Str} {b : Nat} {c : List Nat}, Cut row (endsF n L) last ps b c → ∀ g ∈ partsF ps c, g ∈ L
  | _, _, _, .nil b => fun g h => absurd h (by simp [partsF, partsK])
  | _, _, _, .cons (x := x) (ps := ps) (b := b) (j := j) (c := c) h1 h2 h3 => by
    intro g hg
    obtain ⟨c', rfl⟩ := h3.head
    rw [partsF_cons] at hg
    rcases List.mem_append.mp hg with hg | hg
    · split at hg
      · rename_i hx
        have e := List.mem_singleton.mp hg
        subst e
        rcases mem_behind.mp h1 with ⟨_, h⟩ | ⟨h, _⟩
        · exact (mem_endsF.mp h).1
        · rw [hx] at h; cases h
      · cases hg
    · exact h3.parts g hg
theorem mem_waysOf {G : Gr} {row : List Str} {E : Str → Nat → List Nat} {f : Fct} {w : Way} : w ∈ waysOf G row E f ↔ ∃ r, G[w.1]? = some r ∧ r.nm = f.1 ∧ Cut row E f.2.2 r.ps f.2.1 w.2 ∧ w.2.getLastD 0 = f.2.2 := by
  unfold waysOf sortW
  rw [List.mem_mergeSort]
  unfold waysRaw
  rw [List.mem_flatMap]
  constructor
  · rintro ⟨n, hn, h⟩
    obtain ⟨r, hr, hx⟩ := rulesOf_mem hn
    unfold waysN at h
    rw [hr] at h
    obtain ⟨c, hc, rfl⟩ := List.mem_map.mp h
    obtain ⟨h1, h2⟩ := List.mem_filter.mp hc
    exact ⟨r, hr, hx, mem_cutsFrom.mp h1, by simpa using h2⟩
  · rintro ⟨r, hr, hx, hc, hl⟩
    refine ⟨w.1, List.mem_filter.mpr ⟨List.mem_range.mpr (List.getElem?_eq_some_iff.mp hr).1, ?_⟩, ?_⟩
    · unfold isOf
      rw [hr]
      simpa using hx
    · unfold waysN
      rw [hr]
      exact List.mem_map.mpr ⟨w.2, List.mem_filter.mpr ⟨mem_cutsFrom.mpr hc, by simpa using hl⟩, rfl⟩
theorem WOk.of {G : Gr} {row : List Str} {E : Str → Nat → List Nat} {f : Fct} {w : Way} (h : w ∈ waysOf G row E f) : WOk G w := by
  obtain ⟨r, h1, _, h2, _⟩ := mem_waysOf.mp h
  exact ⟨r, h1, h2.len⟩
theorem mem_sortF {L : List Fct} {f : Fct} : f ∈ sortF L ↔ f ∈ L := List.mem_mergeSort
def EEs (row : List Str) (L : List Fct) : Str → Nat → List Nat := endsF row.length (sortF L)
theorem parts_ok {G : Gr} {row : List Str} {L : List Fct} (hL : IsFound G row L) {f : Fct} {w : Way} (h : w ∈ waysOf G row (EEs row L) f) : ∀ g ∈ partsW G w, FOk G row g := by
  obtain ⟨r, h1, _, h2, _⟩ := mem_waysOf.mp h
  intro g hg
  unfold partsW at hg
  rw [h1] at hg
  exact hL.mem.mp (mem_sortF.mp (h2.parts g hg))
/-- the numbers of ways and parts -/
theorem behind_lenM {row : List Str} {E : Str → Nat → List Nat} {m : Nat} (h : ∀ x i, (E x i).length ≤ m) (hm : 1 ≤ m) (x : Str) (i : Nat) : (behind row E x i).length ≤ m := by
  unfold behind
  split
  · exact h x i
  · split <;> simp <;> omega
theorem cuts_lenM {row : List Str} {E : Str → Nat → List Nat} {m : Nat} (h : ∀ x i, (E x i).length ≤ m) (hm : 1 ≤ m) (last : Nat) : ∀ (ps : List Str) (C : List (List Nat)), (ps.foldl (cutStep row E last) C).length ≤ m ^ ps.length * C.length
  | [], C => by simp
  | x :: ps, C => by
    rw [List.foldl_cons, List.length_cons, Nat.pow_succ]
    refine Nat.le_trans (cuts_lenM h hm last ps _) ?_
    rw [Nat.mul_assoc]
    refine Nat.mul_le_mul_left _ ?_
    unfold cutStep
    rw [Nat.mul_comm]
    refine flatMap_len (fun c => ?_) C
    unfold cutOne
    rw [List.length_map]
    exact Nat.le_trans (List.length_filter_le _ _) (behind_lenM h hm _ _)
theorem EEs_len {G : Gr} {row : List Str} (S : Sized G row) (L : List Fct) (x : Str) (i : Nat) : (EEs row L x i).length ≤ 6 := by
  have h1 := endsF_le (n := row.length) (L := sortF L) x i
  have h2 := S.rl
  unfold EEs
  omega
theorem ways_len {G : Gr} {row : List Str} (S : Sized G row) (L : List Fct) (f : Fct) : (waysOf G row (EEs row L) f).length ≤ 10368 := by
  unfold waysOf sortW
  rw [List.length_mergeSort]
  unfold waysRaw
  have h1 : ∀ n, (waysN G row (EEs row L) f.2.1 f.2.2 n).length ≤ 1296 := fun n => by
    unfold waysN
    split
    · rename_i r hr
      rw [List.length_map]
      refine Nat.le_trans (List.length_filter_le _ _) ?_
      have h3 := cuts_lenM (row := row) (EEs_len S L) (by decide) f.2.2 r.ps [[f.2.1]]
      have h4 : 6 ^ r.ps.length ≤ 6 ^ 4 := Nat.pow_le_pow_right (by decide) (S.pl r (List.mem_of_getElem? hr))
      unfold cutsFrom
      simp only [List.length_cons, List.length_nil] at h3
      omega
    · exact Nat.zero_le _
  have h2 := flatMap_len h1 (rulesOf G f.1)
  have h3 := rulesOf_len G f.1
  have h4 := S.gl
  omega
theorem partsW_len {G : Gr} {row : List Str} (S : Sized G row) (w : Way) : (partsW G w).length ≤ 4 := by
  unfold partsW
  split
  · rename_i r hr
    exact Nat.le_trans (partsK_len _ _ _) (S.pl r (List.mem_of_getElem? hr))
  · exact Nat.zero_le _
def topF (G : Gr) (row : List Str) : Fct := match G with
  | r :: _ => (r.nm, 0, row.length)
  | [] => (⟨#[]⟩, 0, 0)
def gstep (G : Gr) (row : List Str) (L : List Fct) : List Fct × List Fct → List Fct × List Fct := fun VP => match VP.2.getLast? with
  | none => VP
  | some f => if f ∈ VP.1 then (VP.1, VP.2.dropLast) else (VP.1 ++ [f], VP.2.dropLast ++ (waysOf G row (EEs row L) f).flatMap (partsW G))
def giter (G : Gr) (row : List Str) (L : List Fct) : Nat → List Fct × List Fct
  | 0 => ([], [topF G row])
  | k + 1 => gstep G row L (giter G row L k)
def IsGrove (G : Gr) (row : List Str) (L V : List Fct) : Prop := (topF G row ∉ L ∧ V = []) ∨ (topF G row ∈ L ∧ ∃ k, giter G row L k = (V, []))
theorem gstep_done {G : Gr} {row : List Str} {L V : List Fct} : gstep G row L (V, []) = (V, []) := rfl
theorem giter_stable {G : Gr} {row : List Str} {L V : List Fct} {k : Nat} (h : giter G row L k = (V, [])) : ∀ m, giter G row L (k + m) = (V, [])
  | 0 => h
  | m + 1 => by
    show gstep G row L (giter G row L (k + m)) = _
    rw [giter_stable h m]
    rfl
theorem IsGrove.uniq {G : Gr} {row : List Str} {L V V' : List Fct} (h : IsGrove G row L V) (h' : IsGrove G row L V') : V = V' := by
  rcases h with ⟨a, rfl⟩ | ⟨a, k, hk⟩
  · rcases h' with ⟨b, rfl⟩ | ⟨b, k', hk'⟩
    · rfl
    · exact absurd b a
  · rcases h' with ⟨b, rfl⟩ | ⟨b, k', hk'⟩
    · exact absurd a b
    · rcases Nat.le_total k k' with q | q
      · have := giter_stable hk (k' - k)
        rw [Nat.add_sub_cancel' q, hk'] at this
        exact (Prod.mk.inj this).1.symm
      · have := giter_stable hk' (k - k')
        rw [Nat.add_sub_cancel' q, hk] at this
        exact (Prod.mk.inj this).1
/-- what holds of the facts come to and of those that wait -/
structure GInv (G : Gr) (row : List Str) (L : List Fct) (VP : List Fct × List Fct) : Prop where
  nd : VP.1.Nodup
  okV : ∀ f ∈ VP.1, FOk G row f
  okP : ∀ f ∈ VP.2, FOk G row f
  top : topF G row ∈ VP.1 ∨ topF G row ∈ VP.2
  cl : ∀ f ∈ VP.1, ∀ w ∈ waysOf G row (EEs row L) f, ∀ g ∈ partsW G w, g ∈ VP.1 ∨ g ∈ VP.2
theorem mem_lastSplit {α : Type} {P : List α} {f g : α} (e : P.getLast? = some f) : g ∈ P ↔ g ∈ P.dropLast ∨ g = f := by
  have hne : P ≠ [] := fun z => by rw [z] at e; cases e
  have h1 : P.getLast hne = f := by
    rw [List.getLast?_eq_some_getLast hne] at e
    exact Option.some.inj e
  have h2 : P = P.dropLast ++ [f] := by rw [← h1]; exact (List.dropLast_concat_getLast hne).symm
  constructor
  · intro h
    rw [h2] at h
    rcases List.mem_append.mp h with h | h
    · exact .inl h
    · exact .inr (List.mem_singleton.mp h)
  · intro h
    rw [h2]
    rcases h with h | h
    · exact List.mem_append_left _ h
    · exact List.mem_append_right _ (List.mem_singleton.mpr h)
theorem GInv.step {G : Gr} {row : List Str} {L : List Fct} (hL : IsFound G row L) {VP : List Fct × List Fct} (I : GInv G row L VP) : GInv G row L (gstep G row L VP) := by
  unfold gstep
  cases e : VP.2.getLast? with
  | none => exact I
  | some f =>
    show GInv G row L (if f ∈ VP.1 then (VP.1, VP.2.dropLast) else (VP.1 ++ [f], VP.2.dropLast ++ (waysOf G row (EEs row L) f).flatMap (partsW G)))
    have hs := fun g => mem_lastSplit (g := g) e
    by_cases h : f ∈ VP.1
    · rw [if_pos h]
      refine ⟨I.nd, I.okV, fun g hg => I.okP g ((hs g).mpr (.inl hg)), ?_, fun g hg w hw k hk => ?_⟩
      · rcases I.top with t | t
        · exact .inl t
        · rcases (hs _).mp t with t | t
          · exact .inr t
          · exact .inl (t ▸ h)
      · rcases I.cl g hg w hw k hk with t | t
        · exact .inl t
        · rcases (hs _).mp t with t | t
          · exact .inr t
          · exact .inl (t ▸ h)
    · rw [if_neg h]
      have hf : FOk G row f := I.okP f ((hs f).mpr (.inr rfl))
      refine ⟨nd_snoc I.nd h, fun g hg => ?_, fun g hg => ?_, ?_, fun g hg w hw k hk => ?_⟩
      · rcases List.mem_append.mp hg with t | t
        · exact I.okV g t
        · rw [List.mem_singleton.mp t]; exact hf
      · rcases List.mem_append.mp hg with t | t
        · exact I.okP g ((hs g).mpr (.inl t))
        · obtain ⟨w, hw, t⟩ := List.mem_flatMap.mp t
          exact parts_ok hL hw g t
      · rcases I.top with t | t
        · exact .inl (List.mem_append_left _ t)
        · rcases (hs _).mp t with t | t
          · exact .inr (List.mem_append_left _ t)
          · exact .inl (List.mem_append_right _ (List.mem_singleton.mpr t))
      · rcases List.mem_append.mp hg with t | t
        · rcases I.cl g t w hw k hk with t | t
          · exact .inl (List.mem_append_left _ t)
          · rcases (hs _).mp t with t | t
            · exact .inr (List.mem_append_left _ t)
            · exact .inl (List.mem_append_right _ (List.mem_singleton.mpr t))
        · rw [List.mem_singleton.mp t] at hw
          exact .inr (List.mem_append_right _ (List.mem_flatMap.mpr ⟨w, hw, hk⟩))
theorem GInv.iter {G : Gr} {row : List Str} {L : List Fct} (hL : IsFound G row L) (ht : topF G row ∈ L) : ∀ k, GInv G row L (giter G row L k)
  | 0 => ⟨List.nodup_nil, fun _ h => absurd h List.not_mem_nil, fun f h => by rw [List.mem_singleton.mp h]; exact hL.mem.mp ht, .inr (List.mem_singleton.mpr rfl), fun _ h => absurd h List.not_mem_nil⟩
  | k + 1 => (GInv.iter hL ht k).step hL
theorem GInv.len {G : Gr} {row : List Str} {L : List Fct} (S : Sized G row) {VP : List Fct × List Fct} (I : GInv G row L VP) : VP.1.length ≤ 288 :=
  Nat.le_trans (nodup_len I.nd fun f hf => mem_allF (I.okV f hf)) (allF_len S)
/-- a measure -/
def gmu (VP : List Fct × List Fct) : Nat := (288 - VP.1.length) * 41473 + VP.2.length
theorem gmu_step {G : Gr} {row : List Str} {L : List Fct} (S : Sized G row) {VP : List Fct × List Fct} (I : GInv G row L (gstep G row L VP)) (hn : VP.2 ≠ []) : gmu (gstep G row L VP) < gmu VP := by
  unfold gstep at I ⊢
  cases e : VP.2.getLast? with
  | none => rw [List.getLast?_eq_none_iff] at e; exact absurd e hn
  | some f =>
    rw [e] at I
    replace I : GInv G row L (if f ∈ VP.1 then (VP.1, VP.2.dropLast) else (VP.1 ++ [f], VP.2.dropLast ++ (waysOf G row (EEs row L) f).flatMap (partsW G))) := I
    show gmu (if f ∈ VP.1 then (VP.1, VP.2.dropLast) else (VP.1 ++ [f], VP.2.dropLast ++ (waysOf G row (EEs row L) f).flatMap (partsW G))) < _
    have hp : 0 < VP.2.length := List.length_pos_iff.mpr hn
    by_cases h : f ∈ VP.1
    · rw [if_pos h]
      unfold gmu
      simp only [List.length_dropLast]
      omega
    · rw [if_neg h] at I ⊢
      have h1 := I.len S
      unfold gmu
      simp only [List.length_append, List.length_dropLast, List.length_singleton] at h1 ⊢
      have h2 : ((waysOf G row (EEs row L) f).flatMap (partsW G)).length ≤ 41472 := by
        refine Nat.le_trans (flatMap_len (partsW_len S) _) ?_
        have := ways_len S L f
        omega
      have h3 : (288 - VP.1.length) = (288 - (VP.1.length + 1)) + 1 := by omega
      rw [h3, Nat.add_mul]
      omega
theorem gmu_le {G : Gr} {row : List Str} {L : List Fct} (S : Sized G row) (hL : IsFound G row L) (ht : topF G row ∈ L) (k : Nat) : gmu (giter G row L k) ≤ gmu (giter G row L 0) := by
  induction k with
  | zero => exact Nat.le_refl _
  | succ k h1 =>
    by_cases h : (giter G row L k).2 = []
    · have : giter G row L (k + 1) = giter G row L k := by
        show gstep G row L (giter G row L k) = _
        generalize giter G row L k = q at h
        obtain ⟨a, b⟩ := q
        cases h
        rfl
      rw [this]
      exact h1
    · have := gmu_step S (GInv.iter hL ht (k + 1)) h
      exact Nat.le_trans (Nat.le_of_lt this) h1
theorem gmu_0 {G : Gr} {row : List Str} {L : List Fct} : gmu (giter G row L 0) < sizeLine := by
  have h0 : giter G row L 0 = ([], [topF G row]) := rfl
  rw [h0, PySem.sizeLine_eq]
  unfold gmu
  simp only [List.length_nil, List.length_singleton]
  omega
end Rg
namespace Rg
open PySem PySem.Spec L2
theorem eqv_fct (f g : Fct) : PyData.eqv (eFct f) (eFct g) = decide (f = g) := by
  obtain ⟨a, b, c⟩ := f
  obtain ⟨a', b', c'⟩ := g
  unfold eFct
  simp only [PyData.eqv, PyData.eqvAll, Bool.and_true]
  by_cases h1 : a = a'
  · by_cases h2 : b = b'
    · by_cases h3 : c = c'
      · simp [h1, h2, h3]
      · have : ¬ (c : Int) = (c' : Int) := by omega
        simp [h3, this]
    · have : ¬ (b : Int) = (b' : Int) := by omega
      simp [h2, this]
  · simp [h1]
theorem shp_fct {f : Fct} (h : PyData.strOk f.1 = true) : SeqAt.shaped (eFct f) = true := by
  unfold SeqAt.shaped eFct
  simp [PyData.canLay0, PyData.canLayAll0, PyData.depth, PyData.depthAll, h]
theorem shp_fcts_aux : ∀ {L : List Fct}, (∀ f ∈ L, PyData.strOk f.1 = true) → PyData.canLayAll0 (L.map eFct) = true ∧ PyData.depthAll (L.map eFct) ≤ 2
  | [], _ => ⟨rfl, Nat.zero_le _⟩
  | f :: L, h => by
    obtain ⟨h1, h2⟩ := shp_fcts_aux (L := L) fun g hg => h g (List.mem_cons_of_mem _ hg)
    have h3 := h f List.mem_cons_self
    constructor
    · simp [PyData.canLayAll0, h1, eFct, PyData.canLay0, h3]
    · simp only [List.map_cons, PyData.depthAll, eFct, PyData.depth]
      omega
theorem shp_fcts {L : List Fct} (h : ∀ f ∈ L, PyData.strOk f.1 = true) : SeqAt.shaped (.list (L.map eFct)) = true := by
  obtain ⟨h1, h2⟩ := shp_fcts_aux h
  simp [SeqAt.shaped, PyData.canLay0, PyData.depth, h1]
  omega
theorem any_fct (f : Fct) : ∀ L : List Fct, ((L.map eFct).any fun z => PyData.eqv z (eFct f)) = decide (f ∈ L)
  | [] => rfl
  | g :: L => by
    rw [List.map_cons, List.any_cons, any_fct f L, eqv_fct]
    by_cases h : g = f
    · subst h; simp
    · have h' : ¬ f = g := fun z => h z.symm
      simp [h, h']
theorem FOk.strOk {G : Gr} {row : List Str} (S : Sized G row) {f : Fct} (h : FOk G row f) : PyData.strOk f.1 = true := by
  obtain ⟨_, t, ht⟩ := h
  obtain ⟨r, hr, e⟩ := ht.nm
  rw [← e]
  exact (S.ok r hr).1
theorem hu65 {k : Nat} {A : Around} (r : Room k A) : A.units + 65 < cLine := by
  have := r.un
  omega
theorem popIs {H : Hp} {β : Type} {enc : β → PyData} {us : List V} {P : List β} (h : IsL H us (P.map enc)) (hn : us ≠ []) :
    ∃ v b, us[us.length - 1]? = some v ∧ P.getLast? = some b ∧ Is H v (enc b) ∧ IsL H us.dropLast (P.dropLast.map enc) := by
  have hl := h.length
  rw [List.length_map] at hl
  have hp : 0 < us.length := List.length_pos_iff.mpr hn
  have h1 : us[us.length - 1]? = some (us[us.length - 1]'(by omega)) := List.getElem?_eq_getElem (by omega)
  obtain ⟨d, h2, h3⟩ := h.get h1
  rw [List.getElem?_map, hl] at h2
  cases q : P[P.length - 1]? with
  | none => rw [q] at h2; cases h2
  | some b =>
    rw [q] at h2
    have e : enc b = d := Option.some.inj h2
    subst e
    refine ⟨_, b, h1, by rw [List.getLast?_eq_getElem?]; exact q, h3, ?_⟩
    rw [List.dropLast_eq_take, List.dropLast_eq_take, List.map_take, hl]
    exact h.take _
def muG (pd pp : Addr) (_ : L2.St) (H : Hp) : Nat := match H pd, H pp with
  | some (HO.dT kvs), some (HO.lst us) => (288 - kvs.length) * 41473 + us.length
  | _, _ => 0
theorem muG_eq {pd pp : Addr} {σ : L2.St} {H : Hp} {kvs : List (List Key × V)} {us : List V} {V P : List Fct} (h1 : H pd = some (HO.dT kvs)) (h2 : H pp = some (HO.lst us)) (e1 : kvs.length = V.length) (e2 : us.length = P.length) : muG pd pp σ H = gmu (V, P) := by
  unfold muG gmu
  rw [h1, h2]
  show (288 - kvs.length) * 41473 + us.length = (288 - V.length) * 41473 + P.length
  rw [e1, e2]
theorem keys_len {κ α : Type} {kvs : List (κ × V)} {L : List α} {g : α → κ} (h : kvs.map (·.1) = L.map g) : kvs.length = L.length := by
  have := congrArg List.length h
  rw [List.length_map, List.length_map] at this
  exact this
theorem flatMap_take {α β : Type} (g : α → List β) (l : List α) (t : Nat) : ((l.take t).flatMap g).length ≤ (l.flatMap g).length := by
  have h : l.flatMap g = (l.take t).flatMap g ++ (l.drop t).flatMap g := by rw [← List.flatMap_append, List.take_append_drop]
  rw [h, List.length_append]
  omega
/-- a grove's fact with its ways -/
def GV (H : Hp) (v : V) (s : Fct × List Way) : Prop := ∃ T fa wl, v = .ref T ∧ H T = some (.tup [.ref fa, .ref wl]) ∧ H fa = some (.tup [.str s.1.1, vN s.1.2.1, vN s.1.2.2]) ∧ LD H wl (s.2.map eWay)
theorem GV.mono {H H' : Hp} (t : Same H H') {v : V} {s : Fct × List Way} (h : GV H v s) : GV H' v s := let ⟨T, fa, wl, e, a, b, c⟩ := h; ⟨T, fa, wl, e, t _ _ a, t _ _ b, c.mono t⟩
def GrvAt (H : Hp) (p : Addr) (S : List (Fct × List Way)) : Prop := ∃ vs, H p = some (.lst vs) ∧ Paired (GV H) vs S
theorem GrvAt.mono {H H' : Hp} (t : Same H H') {p : Addr} {S : List (Fct × List Way)} (h : GrvAt H p S) : GrvAt H' p S := let ⟨vs, a, b⟩ := h; ⟨vs, t _ _ a, b.mono fun _ _ q => q.mono t⟩
def grvS (G : Gr) (row : List Str) (L V : List Fct) : List (Fct × List Way) := (sortF V).map fun f => (f, waysOf G row (EEs row L) f)
theorem FctIs {H : Hp} {a : Addr} {f : Fct} (h : H a = some (.tup [.str f.1, vN f.2.1, vN f.2.2])) : Is H (.ref a) (eFct f) := .tup h (.cons (.str _) (.cons (.int _) (.cons (.int _) .nil)))
theorem wr2 {H : Hp} {f : Fct} : (fKey f).map kV = [.str f.1, vN f.2.1, vN f.2.2] := rfl
section
variable {P : Program} {w : World} {K : PySem.W.Frag} {mg : Str → Option Value} {base : Heap} {f : Addr} {fd : FuncData}
def sp_grove : Sp := fun vs H Q _ => ∃ (a ra : Addr) (G : Gr) (row : List Str), vs = [.ref a, .ref ra] ∧ LD H a (G.map eRl) ∧ WL H ra row ∧ Sized G row ∧
  ∀ H' p L V, Same H H' → H p = none → IsFound G row L → IsGrove G row L V → GrvAt H' p (grvS G row L V) → Q (.ref p) H'
theorem ok_grove (F : Fun K "grove" "grove" st_grove f fd) (B : Bl mg) (Cf : Cal P w K mg base 5 "facts" ["grammar", "row"] sp_facts) (Ce : Cal P w K mg base 2 "ends_of" ["known", "many"] sp_ends_of)
    (Cw : Cal P w K mg base 4 "ways_of" ["grammar", "row", "ends", "fact"] sp_ways_of) (Cp : Cal P w K mg base 2 "parts_of" ["grammar", "way"] sp_parts_of) :
    FnOk P w K mg base CX0 6 f fd ["grammar", "row"] sp_grove := by
  refine F.ok sc_grove (fun vs H Q E h => ?_) (fun cdv A outer s H vs Q E hr h => ?_)
  · obtain ⟨a, ra, G, row, rfl, _⟩ := h
    rfl
  · obtain ⟨a, ra, G, row, rfl, ⟨gvs, hgv, hG⟩, hrow, S, k⟩ := h
    have nd := sc_grove.nd
    have hu := hu_of hr
    refine ⟨_, pss_cons (ps_set (i := 2) nd rfl (Or.inl rfl) (pe_cal Cf hr rfl (pa_cons (pv 0) (pa_cons (pv 1) pa_nil))))
      (pss_cons (ps_set (i := 3) nd rfl (Or.inl rfl) (pe_tup (pa_cons (pe_ix ix_tup (pe_ix ix_list (pv 0) pe_int (fun _ _ => rfl)) pe_int (fun _ _ => rfl)) (pa_cons pe_int (pa_cons (pe_len B rfl (pv 1)) pa_nil)))))
      (pss_cons (ps_if (pt_cmpR (op_notInD (hu65 hr)) (pv 3) (pv 2) rfl) (pss_one (ps_ret (pe_lst pa_nil))) pss_nil)
      (pss_cons (ps_set (i := 4) nd rfl (Or.inl rfl) (pe_cal Ce (hr.mono (by decide)) rfl (pa_cons (pv 2) (pa_cons (pe_len B rfl (pv 1)) pa_nil))))
      (pss_cons (ps_set (i := 5) nd rfl (Or.inr rfl) pe_dnewT)
      (pss_cons (ps_set (i := 6) nd rfl (Or.inl rfl) (pe_lst (pa_cons (pv 3) pa_nil)))
      (pss_cons (ps_while PassesOwn.never (pt_cmpR (op_neE hr.units0) (pv 6) (pe_lst pa_nil) (nomark _))
        (pss_cons (ps_set (i := 7) nd rfl (Or.inl rfl) (pe_pop (pv 6)))
        (pss_one (ps_if (pt_cmp (pc_dnotin hu (pv 7) (pv 5)))
          (pss_cons (ps_dput hu (pv 5) (pv 7) (pe_cal Cw (hr.mono (by decide)) rfl (pa_cons (pv 0) (pa_cons (pv 1) (pa_cons (pv 4) (pa_cons (pv 7) pa_nil))))) rfl)
          (pss_one (ps_for PassesOwn.never rfl (pi_list (pe_dget hu (pv 5) (pv 7) (fun _ _ => rfl))) (pg_name (i := 8) nd rfl (Or.inl rfl))
            (pss_one (ps_expr (pe_ext (pv 6) (pe_cal Cp (hr.mono (by decide)) rfl (pa_cons (pv 0) (pa_cons (pv 8) pa_nil))))))))) pss_nil))))
      (pss_one (ps_ret (pe_lc (own := [("fact", 7)]) (g := gName 7) (tt := tYes) rfl nd (pi_list (pe_callB (cr_srtD (key := fKey) (enc := eFct) rfl (Nat.lt_of_le_of_lt (Nat.add_le_add_left (by decide : 10 ≤ 64) _) hr.units)) rfl B.sorted PyProof.Rows.boot_sorted (pa_cons (pv 5) pa_nil) (by decide) (by decide)))
        (blkOk_by (N := ["grammar", "row", "known", "top", "ends", "ways", "pile", "fact", "way"]) (sc := defScope st_grove) (by decide +kernel))
        (fun _ _ _ _ _ => pg_name (i := 7) nd rfl (Or.inl rfl)) (fun _ _ _ _ _ => pts_nil)
        (fun _ _ _ _ _ => pe_tup (pa_cons (pv 7) (pa_cons (pe_dget hu (pv 5) (pv 7) (fun _ _ => rfl)) pa_nil)))))))))))), ?_⟩
    have hgl := S.gl
    obtain ⟨r0, hr0⟩ : ∃ r0, G[0]? = some r0 := by
      cases hG0 : G with
      | nil => exact absurd hG0 S.g0
      | cons r0 G' => exact ⟨r0, rfl⟩
    have etop : topF G row = (r0.nm, 0, row.length) := by
      cases hG0 : G with
      | nil => exact absurd hG0 S.g0
      | cons r1 G' => rw [hG0] at hr0; cases hr0; rfl
    obtain ⟨b0, pa0, hb1, hb0, hpa0⟩ := getRl' hG hr0
    have htopOk : PyData.strOk (topF G row).1 = true := by rw [etop]; exact (S.ok r0 (List.mem_of_getElem? hr0)).1
    refine ⟨_, rfl, _, rfl, a, ra, G, row, rfl, ⟨gvs, hgv, hG⟩, hrow, S, fun H1 kp L s1 hkp hL hK => ?_⟩
    have hFs : ∀ f ∈ sortF L, FOk G row f := fun f hf => hL.mem.mp (mem_sortF.mp hf)
    have hLl : (sortF L).length ≤ 288 := Nat.le_trans (nodup_len ((List.mergeSort_perm L _).nodup_iff.mpr hL.nd) fun f hf => mem_allF (hFs f hf)) (allF_len S)
    refine ⟨_, rfl, a, gvs, _, _, rfl, rfl, SqL.of (s1 _ _ hgv), atI_nat (j := 0) hb1, b0, _, 0, _, rfl, rfl, SqT.of (s1 _ _ hb0), atI_nat (j := 0) rfl, _, rfl, ra, _, rfl, .inl (SqL.of (s1 _ _ hrow)), by show 3 ≤ sizeLine; decide, fun T hT => ?_⟩
    rw [List.length_map]
    have s2 : Same H1 (upd H1 T (.tup [.str r0.nm, .int 0, .int (row.length : Int)])) := same_new hT
    have hTt : (upd H1 T (.tup [.str r0.nm, .int 0, .int (row.length : Int)])) T = some (.tup [.str (topF G row).1, vN (topF G row).2.1, vN (topF G row).2.2]) := by rw [etop]; exact upd_same
    generalize upd H1 T (.tup [.str r0.nm, .int 0, .int (row.length : Int)]) = H2 at *
    have s02 : Same H H2 := s1.trans s2
    have hTH : H T = none := s1.free hT
    have hK2 := hK.mono s2
    obtain ⟨kus, hkus, hKI⟩ := hK2
    refine ⟨_, rfl, _, rfl, eFct (topF G row), (sortF L).map eFct, (FctIs hTt).dp K, .lst (SqL.of hkus) (hKI.dp K), shp_fct htopOk, shp_fcts fun f hf => (hFs f hf).strOk S, _, rfl, ?_⟩
    rw [any_fct]
    by_cases htl : topF G row ∈ L
    · rw [decide_eq_true (mem_sortF.mpr htl)]
      refine iteF ?_
      refine ⟨_, rfl, _, rfl, ra, _, rfl, .inl (SqL.of (s02 _ _ hrow)), kp, sortF L, row.length, by simp, ⟨kus, hkus, hKI⟩, by omega, fun H3 d s3 hd hE => ?_⟩
      have s03 : Same H H3 := s02.trans s3
      have hEH : EndsAt H H3 d (EEs row L) (sortF L).length := hE.base fun b hb => by
        cases q : H b with
        | none => rfl
        | some o => rw [s02 _ _ q] at hb; cases hb
      intro pd hpd
      have s4 : Same H3 (upd H3 pd (.dT [])) := same_new hpd
      refine ⟨_, rfl, by show 1 ≤ sizeLine; decide, fun pp hpp => ?_⟩
      have s5 := s4.trans (same_new (o := .lst [.ref T]) hpp)
      have hpp3 : H3 pp = none := s4.free hpp
      have hdp : pd ≠ pp := ne_of_none (H := upd H3 pd (.dT [])) upd_same hpp
      have hTt3 : H3 T = some (.tup [.str (topF G row).1, vN (topF G row).2.1, vN (topF G row).2.2]) := s3 _ _ hTt
      refine while_by (fun σ Hc => ∃ (n : Nat) (kvs : List (List Key × V)) (us : List V) (Hb : Hp) (o7 o8 : Option V), σ = [some (.ref a), some (.ref ra), some (.ref kp), some (.ref T), some (.ref d), some (.ref pd), some (.ref pp), o7, o8] ∧
          Same H Hb ∧ Same Hb Hc ∧ Hb pp = none ∧ Hb pd = none ∧ EndsAt H Hb d (EEs row L) (sortF L).length ∧ Hc pd = some (.dT kvs) ∧ kvs.map (·.1) = (giter G row L n).1.map fKey ∧
          (∀ q ∈ kvs, ∃ g wl, q = (fKey g, .ref wl) ∧ LD Hb wl ((waysOf G row (EEs row L) g).map eWay)) ∧ Hc pp = some (.lst us) ∧ IsL Hc us ((giter G row L n).2.map eFct))
        (muG pd pp)
        ⟨0, [], [.ref T], H3, none, none, rfl, s03, s5, hpp3, hpd, hEH, by rw [upd_ne hdp]; exact upd_same, rfl, (fun _ h => absurd h List.not_mem_nil), upd_same, .cons (FctIs (s5 _ _ hTt3)) .nil⟩ ?_
        (fun σ H Q Q' h ⟨v, e, sz, q⟩ => ⟨v, e, sz, fun p hp => let ⟨a, b, xs, e1, e2, e3, e4, kk, e5, q⟩ := q p hp; ⟨a, b, xs, e1, e2, e3, e4, kk, e5, h _ _ q⟩⟩)
      rintro σ Hc ⟨n, kvs, us, Hb, o7, o8, rfl, sHb, sbc, hbp, hbd, hEb, hcd, hck, hcv, hcp, hU⟩
      refine ⟨_, rfl, by decide, fun q hq => ⟨pp, q, us, rfl, rfl, SqL.of ((same_new hq) _ _ hcp), SqL.of upd_same, _, rfl, ?_⟩⟩
      have sq : Same Hc (upd Hc q (.lst [])) := same_new hq
      have lk := keys_len hck
      have lu := hU.length
      rw [List.length_map] at lu
      have hI := GInv.iter (row := row) hL htl n
      have hVl := hI.len S
      have hmu := muG_eq (σ := [some (.ref a), some (.ref ra), some (.ref kp), some (.ref T), some (.ref d), some (.ref pd), some (.ref pp), o7, o8]) hcd hcp lk lu
      rw [hmu]
      cases hemp : us.isEmpty with
      | true =>
        -- nothing waits
        have eus : us = [] := List.isEmpty_iff.mp hemp
        subst eus
        have eP : (giter G row L n).2 = [] := by
          have : (giter G row L n).2.length = 0 := by rw [← lu]; rfl
          exact List.eq_nil_of_length_eq_zero this
        have hgrv : IsGrove G row L (giter G row L n).1 := .inr ⟨htl, n, by rw [← eP]⟩
        generalize hV : (giter G row L n).1 = VV at *
        refine iteF ?_
        generalize hH5 : upd Hc q (.lst []) = H5 at *
        have s55 : Same Hb H5 := sbc.trans sq
        have h5d : H5 pd = some (.dT kvs) := sq _ _ hcd
        refine ⟨_, rfl, pd, kvs, VV, rfl, .inl h5d, hck, fun _ => rfl, PySem.W.AllAlike.of (fun _ _ => rfl), PySem.W.Sortable.tuples (fun b => ⟨_, _, rfl⟩), fun _ _ => eFct_dep _, fun p out hp ho => ⟨p, rfl, ⟨_, SqL.of upd_same⟩, fun D hD => ?_⟩⟩
        have s6 : Same H5 (upd H5 p (.lst (out.map V.ref))) := same_new hp
        have h6p : (upd H5 p (.lst (out.map V.ref))) p = some (.lst (out.map V.ref)) := upd_same
        generalize hH6 : upd H5 p (.lst (out.map V.ref)) = H6 at *
        have hout : Paired (fun v b => H5 v = some (.tup ((fKey b).map kV))) out (sortF VV) := ho
        have hDH : H D = none := (((sHb.trans s55).trans s6)).free hD
        have sDp : Same H6 (upd H6 D (.lst [])) := same_new hD
        have lo : out.length = (sortF VV).length := Paired.length hout
        have lsv : (sortF VV).length ≤ 288 := by unfold sortF; rw [List.length_mergeSort]; exact hVl
        refine lc_list (K := K) (a := p) (xs := out.map V.ref) (fun i Hx => Same H6 Hx ∧ ∃ vs, Hx D = some (.lst vs) ∧ Paired (GV (but Hx D)) vs (((sortF VV).take i).map fun f => (f, waysOf G row (EEs row L) f))) ⟨sDp, [], upd_same, .nil⟩ (fun i Hx _ h => SqL.of (h.1 _ _ h6p)) ?_ ?_
        · rintro i x Hx hi ⟨sx, vs, hvs, hPV⟩
          rw [List.getElem?_map] at hi
          cases eo : out[i]? with
          | none => rw [eo] at hi; cases hi
          | some fa =>
            rw [eo] at hi
            cases hi
            obtain ⟨g, hg, hfa⟩ := paired_get hout eo
            have hgV : g ∈ VV := mem_sortF.mp (List.mem_of_getElem? hg)
            obtain ⟨v, hv⟩ : ∃ v, valV kvs (fKey g) = some v := by
              cases q : valV kvs (fKey g) with
              | none => exact absurd (hck ▸ fKey_mem.mpr hgV) (valV_not q)
              | some v => exact ⟨v, rfl⟩
            obtain ⟨g', wl, ep, hwl⟩ := hcv _ (valV_memp hv)
            obtain ⟨e1, e2⟩ := Prod.mk.inj ep
            have e1 := fKey_inj e1
            subst e1 e2
            have lp := Paired.length hPV
            rw [List.length_map, List.length_take] at lp
            refine ⟨rfl, ?_⟩
            unfold tYes
            refine iteT ?_
            refine ⟨_, rfl, _, rfl, _, rfl, pd, .ref wl, rfl, .inr ⟨kvs, fKey g, fa, .inl (sx _ _ (s6 _ _ h5d)), rfl, sx _ _ (s6 _ _ hfa), hv.symm⟩, by show 2 ≤ sizeLine; decide, fun T2 hT2 => ?_⟩
            have sT2 : Same Hx (upd Hx T2 (.tup [.ref fa, .ref wl])) := same_new hT2
            refine ⟨vs, sT2 _ _ hvs, small6 (by omega), same_upd (sx.trans sT2) hD, _, upd_same, ?_⟩
            have hT2D : T2 ≠ D := fun z => by subst z; rw [hvs] at hT2; cases hT2
            rw [take_succ_of hg, List.map_append]
            have sAll : Same (but Hx D) (upd (upd Hx T2 (.tup [.ref fa, .ref wl])) D (.lst (vs ++ [.ref T2]))) := same_upd (but_same.trans sT2) but_none
            have sAb := same_but sAll but_none
            have hfx : Hx fa = some (.tup [.str g.1, vN g.2.1, vN g.2.2]) := sx _ _ (s6 _ _ hfa)
            have sbD : Same Hb (but Hx D) := same_but ((s55.trans s6).trans sx) ((s55.trans s6).free hD)
            refine (hPV.mono fun _ _ h => h.mono sAb).snoc ⟨T2, fa, wl, rfl, ?_, sAb _ _ (but_of hfx hvs (fun z => nomatch z)), hwl.mono (sbD.trans sAb)⟩
            rw [but_ne hT2D, upd_ne hT2D]
            exact upd_same
        · rintro Hx ⟨sx, vs, hvs, hPV⟩
          rw [List.length_map, lo, List.take_length] at hPV
          exact k Hx D L VV (((sHb.trans s55).trans s6).trans sx) hDH hL hgrv ⟨vs, hvs, hPV.mono fun _ _ h => h.mono but_same⟩
      | false =>
        refine iteT ?_
        have hne : us ≠ [] := fun z => by rw [z] at hemp; cases hemp
        obtain ⟨v, g, hlast, hgl, hgv2, hUd⟩ := popIs (hU.mono sq) hne
        obtain ⟨fa, ev, hfa⟩ := isFct hgv2
        subst ev
        generalize hH5 : upd Hc q (.lst []) = H5 at *
        have h5p : H5 pp = some (.lst us) := sq _ _ hcp
        have h5d : H5 pd = some (.dT kvs) := sq _ _ hcd
        refine ⟨_, rfl, .inl ⟨rfl, us, SqL.of h5p⟩, pp, us, _, rfl, rfl, h5p, hlast, ?_⟩
        have s6 : Same Hb (upd H5 pp (.lst us.dropLast)) := same_upd (sbc.trans sq) hbp
        have t6 : TuS H5 (upd H5 pp (.lst us.dropLast)) := TuS.lst h5p
        have h6p : (upd H5 pp (.lst us.dropLast)) pp = some (.lst us.dropLast) := upd_same
        have h6d : (upd H5 pp (.lst us.dropLast)) pd = some (.dT kvs) := by rw [upd_ne hdp]; exact h5d
        generalize hH6 : upd H5 pp (.lst us.dropLast) = H6 at *
        have hfa6 := t6 _ _ hfa
        have hPne : (giter G row L n).2 ≠ [] := fun z => by rw [z] at hgl; cases hgl
        have hstep : giter G row L (n + 1) = if g ∈ (giter G row L n).1 then ((giter G row L n).1, (giter G row L n).2.dropLast) else ((giter G row L n).1 ++ [g], (giter G row L n).2.dropLast ++ (waysOf G row (EEs row L) g).flatMap (partsW G)) := by
          show gstep G row L (giter G row L n) = _
          unfold gstep
          rw [hgl]
        have hdec : gmu (giter G row L (n + 1)) < gmu (giter G row L n) := gmu_step S (GInv.iter hL htl (n + 1)) hPne
        have hbig : gmu (giter G row L (n + 1)) < sizeLine := Nat.lt_of_le_of_lt (gmu_le S hL htl (n + 1)) gmu_0
        have hgOk : FOk G row g := hI.okP g (by rw [mem_lastSplit hgl]; exact .inr rfl)
        refine ⟨_, rfl, _, rfl, pd, _, rfl, DGet.t (k := fKey g) h6d hfa6, _, rfl, ?_⟩
        cases ev : valV kvs (fKey g) with
        | some v0 =>
          have hgV : g ∈ (giter G row L n).1 := fKey_mem.mp (hck ▸ valV_in ev)
          rw [if_pos hgV] at hstep
          refine iteF ⟨⟨n + 1, kvs, us.dropLast, Hb, _, _, rfl, sHb, s6, hbp, hbd, hEb, h6d, by rw [hstep]; exact hck, hcv, h6p, by rw [hstep]; exact hUd.monoT t6⟩, ?_⟩
          have e1 := hUd.length
          rw [List.length_map] at e1
          rw [muG_eq (V := (giter G row L n).1) (P := (giter G row L n).2.dropLast) h6d h6p lk e1, ← hstep]
          exact hdec
        | none =>
          have hgV : g ∉ (giter G row L n).1 := fun hg => valV_not ev (hck ▸ fKey_mem.mpr hg)
          rw [if_neg hgV] at hstep
          have sH6 : Same H H6 := sHb.trans s6
          refine iteT ⟨_, rfl, _, rfl, _, rfl, _, rfl, a, ra, d, fa, G, row, H, EEs row L, (sortF L).length, g, rfl, ⟨gvs, sH6 _ _ hgv, hG.mono sH6⟩, sH6 _ _ hrow, S, hEb.mono s6, fun x i => Nat.le_trans (EEs_len S L x i) (by decide), FctIs hfa6, fun H7 wl s7 hwl hW => ?_⟩
          obtain ⟨wvs, hwvs, hWI⟩ := hW
          have h7d := s7 _ _ h6d
          have h7p := s7 _ _ h6p
          have hwd : wl ≠ pd := fun z => by subst z; rw [h6d] at hwl; cases hwl
          have hwp : wl ≠ pp := fun z => by subst z; rw [h6p] at hwl; cases hwl
          refine ⟨_, rfl, _, rfl, pd, _, rfl, DPut.t (k := fKey g) h7d (s7 _ _ hfa6) (small6 (by omega)), ?_⟩
          rw [putK_new _ ev]
          have t8 : TuS H7 (upd H7 pd (.dT (kvs ++ [(fKey g, .ref wl)]))) := TuS.wr h7d fun _ z => nomatch z
          have s8 : Same Hb (upd H7 pd (.dT (kvs ++ [(fKey g, .ref wl)]))) := same_upd (s6.trans s7) hbd
          have h8d : (upd H7 pd (.dT (kvs ++ [(fKey g, .ref wl)]))) pd = some (.dT (kvs ++ [(fKey g, .ref wl)])) := upd_same
          have h8p : (upd H7 pd (.dT (kvs ++ [(fKey g, .ref wl)]))) pp = some (.lst us.dropLast) := by rw [upd_ne (Ne.symm hdp)]; exact h7p
          have h8w : (upd H7 pd (.dT (kvs ++ [(fKey g, .ref wl)]))) wl = some (.lst wvs) := by rw [upd_ne hwd]; exact hwvs
          generalize hH8 : upd H7 pd (.dT (kvs ++ [(fKey g, .ref wl)])) = H8 at *
          have t68 : TuS H6 H8 := (TuS.of s7).trans t8
          have h8w' : but H8 pp wl = some (.lst wvs) := by rw [but_ne hwp]; exact h8w
          have h8d' : but H8 pp pd = some (.dT (kvs ++ [(fKey g, .ref wl)])) := by rw [but_ne hdp]; exact h8d
          have hWI8 := hWI.monoT t8
          have tb8 : TuS H8 (but H8 pp) := fun b xs e => but_of e h8p (fun z => nomatch z)
          have hWb := hWI8.monoT tb8
          have s8b : Same Hb (but H8 pp) := same_but s8 hbp
          have lW := hWI.length
          rw [List.length_map] at lW
          have hPl : (giter G row L n).2.dropLast.length + ((waysOf G row (EEs row L) g).flatMap (partsW G)).length < sizeLine := by
            refine Nat.lt_of_le_of_lt ?_ hbig
            rw [hstep]
            unfold gmu
            simp only [List.length_append]
            omega
          have e1 := hUd.length
          rw [List.length_map] at e1
          refine ⟨_, rfl, _, rfl, pd, .ref wl, rfl, ?_, wl, rfl, ⟨_, SqL.of h8w⟩, for_list (K := K) (a := wl) (xs := wvs) (fun t σ Hx => ∃ (o8 : Option V), σ = [some (.ref a), some (.ref ra), some (.ref kp), some (.ref T), some (.ref d), some (.ref pd), some (.ref pp), some (.ref fa), o8] ∧ Same (but H8 pp) Hx ∧
              ∃ us2, Hx pp = some (.lst us2) ∧ IsL Hx us2 (((giter G row L n).2.dropLast ++ ((waysOf G row (EEs row L) g).take t).flatMap (partsW G)).map eFct))
            ⟨o8, rfl, but_same, us.dropLast, h8p, by simpa using (hUd.monoT t6).monoT t68⟩ (fun t σ Hx _ ⟨_, _, s, _⟩ => SqL.of (s _ _ h8w')) ?_ ?_⟩
          · have := DGet.t (k := fKey g) h8d (t68 _ _ hfa6)
            rw [valV_snoc _ _ _ _ ev, if_pos rfl] at this
            exact this
          · rintro t y σ Hx ht ⟨o8, rfl, sx, us2, hus2, hU2⟩
            obtain ⟨w', hw1, hw2⟩ := paired_get (pairedIs hWb) ht
            obtain ⟨wa, ca, ew, hwa, hca⟩ := isWay hw2
            subst ew
            have sHx : Same H Hx := (sHb.trans s8b).trans sx
            have hwm := List.mem_of_getElem? hw1
            refine ⟨_, rfl, .inl ⟨rfl, _, SqL.of hus2⟩, _, rfl, _, rfl, a, wa, G, w', rfl, ⟨gvs, sHx _ _ hgv, hG.mono sHx⟩, hw2.mono sx, WOk.of hwm, fun r hr => ⟨S.pl r hr, (S.sh r hr).2⟩, fun H9 q9 s9 hq9 hPL => ?_⟩
            obtain ⟨zs, hzs, hZ⟩ := hPL
            have lz := hZ.length
            rw [List.length_map] at lz
            have lu2 := hU2.length
            rw [List.length_map, List.length_append] at lu2
            have h9p := s9 _ _ hus2
            have etk : ((waysOf G row (EEs row L) g).take (t + 1)).flatMap (partsW G) = ((waysOf G row (EEs row L) g).take t).flatMap (partsW G) ++ partsW G w' := by
              rw [take_succ_of hw1, List.flatMap_append, List.flatMap_cons, List.flatMap_nil, List.append_nil]
            have hfl := flatMap_take (partsW G) (waysOf G row (EEs row L) g) (t + 1)
            rw [etk, List.length_append] at hfl
            refine ⟨pp, q9, us2, zs, rfl, rfl, h9p, hzs, by omega, _, rfl, same_upd (sx.trans s9) but_none, _, upd_same, ?_⟩
            rw [etk, ← List.append_assoc, List.map_append]
            exact (hU2.monoT ((TuS.of s9).trans (TuS.lst h9p))).append (hZ.monoT (TuS.lst h9p))
          · rintro σ Hx ⟨o8, rfl, sx, us2, hus2, hU2⟩
            rw [lW, List.take_length] at hU2
            have hHpp : H pp = none := sHb.free hbp
            have hHpd : H pd = none := sHb.free hbd
            have hxd := sx _ _ h8d'
            have sbb : Same Hb (but (but H8 pp) pd) := same_but s8b hbd
            have e2 := hU2.length
            rw [List.length_map] at e2
            refine ⟨⟨n + 1, _, us2, but (but H8 pp) pd, _, _, rfl, sHb.trans sbb, but_same.trans sx, ?_, but_none, hEb.mono sbb, hxd, by rw [hstep, List.map_append, List.map_append, hck]; rfl, fun q hq => ?_, hus2, by rw [hstep]; exact hU2⟩, ?_⟩
            · rw [but_ne (Ne.symm hdp)]; exact but_none
            · rcases List.mem_append.mp hq with hq | hq
              · obtain ⟨g', wl', e, hw'⟩ := hcv q hq
                exact ⟨g', wl', e, hw'.mono sbb⟩
              · rw [List.mem_singleton.mp hq]
                refine ⟨g, wl, rfl, wvs, by rw [but_ne hwd]; exact h8w', hWb.monoT fun b xs e => but_of e h8d' (fun z => nomatch z)⟩
            · rw [muG_eq (V := (giter G row L n).1 ++ [g]) (P := (giter G row L n).2.dropLast ++ (waysOf G row (EEs row L) g).flatMap (partsW G)) hxd hus2 (by rw [List.length_append, List.length_append, lk]; rfl) e2, ← hstep]
              exact hdec
    · rw [decide_eq_false (fun z => htl (mem_sortF.mp z))]
      refine iteT ⟨by decide, fun p hp => k _ p L [] (s02.trans (same_new hp)) (s02.free hp) hL (.inl ⟨htl, rfl⟩) ⟨[], upd_same, by simp [grvS, sortF]; exact .nil⟩⟩
end
end Rg
namespace Rg
open PySem PySem.Spec L2
/-- a grove: its facts and the ways of each -/
structure Grv (G : Gr) (Vs : List Fct) (W : Fct → List Way) : Prop where
  nd : Vs.Nodup
  len : Vs.length ≤ 288
  wok : ∀ f ∈ Vs, ∀ w ∈ W f, WOk G w
  cl : ∀ f ∈ Vs, ∀ w ∈ W f, ∀ g ∈ partsW G w, g ∈ Vs
  wl : ∀ f ∈ Vs, (W f).length ≤ 10368
  pl : ∀ r ∈ G, r.ps.length ≤ 4 ∧ ∀ p ∈ r.ps, p.length < 1000
  ok : ∀ f ∈ Vs, PyData.strOk f.1 = true
def grvW (Vs : List Fct) (W : Fct → List Way) : List (Fct × List Way) := Vs.map fun f => (f, W f)
def benF (G : Gr) (ws : List Way) : List Fct := ws.foldl (fun acc w => (partsW G w).foldl insL acc) []
theorem mem_benA {G : Gr} {g : Fct} : ∀ {ws : List Way} {acc : List Fct}, g ∈ ws.foldl (fun acc w => (partsW G w).foldl insL acc) acc ↔ g ∈ acc ∨ ∃ w ∈ ws, g ∈ partsW G w
  | [], acc => by simp
  | w :: ws, acc => by
    rw [List.foldl_cons, mem_benA, mem_insL]
    constructor
    · rintro ((h | h) | ⟨w', h1, h2⟩)
      · exact .inl h
      · exact .inr ⟨w, List.mem_cons_self, h⟩
      · exact .inr ⟨w', List.mem_cons_of_mem _ h1, h2⟩
    · rintro (h | ⟨w', h1, h2⟩)
      · exact .inl (.inl h)
      · rcases List.mem_cons.mp h1 with e | h1
        · subst e; exact .inl (.inr h2)
        · exact .inr ⟨w', h1, h2⟩
theorem mem_ben {G : Gr} {g : Fct} {ws : List Way} : g ∈ benF G ws ↔ ∃ w ∈ ws, g ∈ partsW G w := by
  unfold benF
  rw [mem_benA]
  simp
theorem nd_benA {G : Gr} : ∀ {ws : List Way} {acc : List Fct}, acc.Nodup → (ws.foldl (fun acc w => (partsW G w).foldl insL acc) acc).Nodup
  | [], _, h => h
  | w :: ws, acc, h => by
    rw [List.foldl_cons]
    exact nd_benA (insL_nd _ _ h)
theorem ben_len {G : Gr} {Vs : List Fct} {W : Fct → List Way} (S : Grv G Vs W) {f : Fct} (hf : f ∈ Vs) {ws : List Way} (h : ∀ w ∈ ws, w ∈ W f) : (benF G ws).length ≤ 288 :=
  Nat.le_trans (nodup_len (nd_benA List.nodup_nil) fun g hg => by
    obtain ⟨w, hw, hg⟩ := mem_ben.mp hg
    exact S.cl f hf w (h w hw) g hg) S.len
/-- g is a part of one of f's ways -/
def Kid (G : Gr) (W : Fct → List Way) (f g : Fct) : Prop := ∃ w ∈ W f, g ∈ partsW G w
/-- each behind all those in its ways -/
def TopoP (G : Gr) (W : Fct → List Way) (R : List Fct) : Prop := ∀ A f B, R = A ++ f :: B → ∀ g, Kid G W f g → g ∈ A
structure Topo (G : Gr) (Vs : List Fct) (W : Fct → List Way) (R : List Fct) : Prop where
  nd : R.Nodup
  mem : ∀ f, f ∈ R ↔ f ∈ Vs
  ord : TopoP G W R
theorem TopoP.snoc {G : Gr} {W : Fct → List Way} {R : List Fct} (h : TopoP G W R) {f : Fct} (hk : ∀ g, Kid G W f g → g ∈ R) : TopoP G W (R ++ [f]) := by
  intro A x B e g hg
  rcases List.eq_nil_or_concat B with rfl | ⟨B', y, rfl⟩
  · obtain ⟨e1, e2⟩ := List.append_inj' e rfl
    cases e2
    subst e1
    exact hk g hg
  · rw [List.concat_eq_append, show A ++ x :: (B' ++ [y]) = (A ++ x :: B') ++ [y] by simp] at e
    obtain ⟨e1, e2⟩ := List.append_inj' e rfl
    subst e1
    exact h A x B' rfl g hg
/-- the marks of a stack (its top first) -/
def marks (st : List (Fct × Bool)) : List Fct := (st.filter (·.2)).map (·.1)
def FirstMark (G : Gr) (W : Fct → List Way) (g : Fct) (B : List (Fct × Bool)) : Prop := ∀ m ms, marks B = m :: ms → Kid G W m g
structure StOk (G : Gr) (Vs : List Fct) (W : Fct → List Way) (R : List Fct) (st : List (Fct × Bool)) : Prop where
  kid : ∀ A g b B, st = A ++ (g, b) :: B → FirstMark G W g B
  mrk : ∀ A f B, st = A ++ (f, true) :: B → ∀ g, Kid G W f g → g ∈ R ∨ g ∈ A.map (·.1)
  nd : (R ++ marks st).Nodup
  vs : ∀ x ∈ st, x.1 ∈ Vs
  rv : ∀ x ∈ R, x ∈ Vs
  ord : TopoP G W R
theorem marks_t (g : Fct) (st : List (Fct × Bool)) : marks ((g, true) :: st) = g :: marks st := rfl
theorem marks_f (g : Fct) (st : List (Fct × Bool)) : marks ((g, false) :: st) = marks st := rfl
/-- the mark on top is gone through -/
theorem StOk.over {G : Gr} {Vs : List Fct} {W : Fct → List Way} {R : List Fct} {g : Fct} {st : List (Fct × Bool)} (h : StOk G Vs W R ((g, true) :: st)) : StOk G Vs W (R ++ [g]) st := by
  refine ⟨fun A x b B e => h.kid ((g, true) :: A) x b B (by rw [e]; rfl), fun A f B e k hk => ?_, ?_, fun x hx => h.vs x (List.mem_cons_of_mem _ hx), fun x hx => ?_, h.ord.snoc fun k hk => ?_⟩
  · rcases h.mrk ((g, true) :: A) f B (by rw [e]; rfl) k hk with q | q
    · exact .inl (List.mem_append_left _ q)
    · rcases List.mem_cons.mp q with q | q
      · exact .inl (List.mem_append_right _ (List.mem_singleton.mpr q))
      · exact .inr q
  · have := h.nd
    rw [marks_t] at this
    rw [List.append_assoc]
    exact this
  · rcases List.mem_append.mp hx with q | q
    · exact h.rv x q
    · rw [List.mem_singleton.mp q]
      exact h.vs _ List.mem_cons_self
  · rcases h.mrk [] g st rfl k hk with q | q
    · exact q
    · cases q
/-- a fact that is done is passed over -/
theorem StOk.skip {G : Gr} {Vs : List Fct} {W : Fct → List Way} {R : List Fct} {g : Fct} {st : List (Fct × Bool)} (h : StOk G Vs W R ((g, false) :: st)) (hg : g ∈ R) : StOk G Vs W R st := by
  refine ⟨fun A x b B e => h.kid ((g, false) :: A) x b B (by rw [e]; rfl), fun A f B e k hk => ?_, h.nd, fun x hx => h.vs x (List.mem_cons_of_mem _ hx), h.rv, h.ord⟩
  rcases h.mrk ((g, false) :: A) f B (by rw [e]; rfl) k hk with q | q
  · exact .inl q
  · rcases List.mem_cons.mp q with q | q
    · have q' : k = g := q
      exact .inl (q' ▸ hg)
    · exact .inr q
/-- down to a new fact -/
theorem StOk.down {G : Gr} {Vs : List Fct} {W : Fct → List Way} (S : Grv G Vs W) {R : List Fct} {g : Fct} {st : List (Fct × Bool)} (h : StOk G Vs W R ((g, false) :: st)) (hg : g ∉ R) (hm : g ∉ marks st) {ks : List Fct} (hks : ∀ k, k ∈ ks ↔ Kid G W g k) :
    StOk G Vs W R (ks.map (fun k => (k, false)) ++ (g, true) :: st) := by
  have hgv : g ∈ Vs := h.vs _ List.mem_cons_self
  have mks : marks (ks.map (fun k => (k, false)) ++ (g, true) :: st) = g :: marks st := by
    unfold marks
    rw [List.filter_append, List.map_append]
    have : (ks.map fun k => ((k, false) : Fct × Bool)).filter (·.2) = [] := List.filter_eq_nil_iff.mpr fun x hx => by
      obtain ⟨k, _, rfl⟩ := List.mem_map.mp hx
      simp
    rw [this]
    rfl
  refine ⟨fun A x b B e => ?_, fun A f B e k hk => ?_, ?_, fun x hx => ?_, h.rv, h.ord⟩
  · rcases List.append_eq_append_iff.mp e with ⟨C, e1, e2⟩ | ⟨C, e1, e2⟩
    · -- at the mark or beneath
      cases C with
      | nil =>
        simp only [List.nil_append, List.cons.injEq, Prod.mk.injEq] at e2
        obtain ⟨⟨rfl, rfl⟩, rfl⟩ := e2
        exact h.kid [] g false st rfl
      | cons c C =>
        simp only [List.cons_append, List.cons.injEq] at e2
        exact h.kid ((g, false) :: C) x b B (by rw [e2.2]; rfl)
    · cases C with
      | nil =>
        simp only [List.nil_append, List.cons.injEq, Prod.mk.injEq] at e2
        obtain ⟨⟨rfl, rfl⟩, rfl⟩ := e2
        exact h.kid [] x false B rfl
      | cons c C =>
        simp only [List.cons_append, List.cons.injEq] at e2
        obtain ⟨rfl, rfl⟩ := e2
        intro m ms em
        have hmem : (x, b) ∈ ks.map fun k => ((k, false) : Fct × Bool) := by rw [e1]; simp
        obtain ⟨k, hk, ek⟩ := List.mem_map.mp hmem
        cases ek
        have hC : (C.filter (·.2)) = [] := List.filter_eq_nil_iff.mpr fun y hy => by
          have : y ∈ ks.map fun k => ((k, false) : Fct × Bool) := by rw [e1]; simp [hy]
          obtain ⟨k', _, rfl⟩ := List.mem_map.mp this
          simp
        unfold marks at em
        rw [List.filter_append, hC, List.nil_append] at em
        have em' : g :: marks st = m :: ms := em
        cases em'
        exact (hks _).mp hk
  · rcases List.append_eq_append_iff.mp e with ⟨C, e1, e2⟩ | ⟨C, e1, e2⟩
    · cases C with
      | nil =>
        simp only [List.nil_append, List.cons.injEq, Prod.mk.injEq] at e2
        obtain ⟨⟨rfl, _⟩, rfl⟩ := e2
        right
        rw [e1, List.append_nil, List.map_map]
        exact List.mem_map.mpr ⟨k, (hks k).mpr hk, rfl⟩
      | cons c C =>
        simp only [List.cons_append, List.cons.injEq] at e2
        obtain ⟨rfl, e2⟩ := e2
        rcases h.mrk ((g, false) :: C) f B (by rw [e2]; rfl) k hk with q | q
        · exact .inl q
        · right
          rw [e1, List.map_append]
          refine List.mem_append_right _ ?_
          rcases List.mem_cons.mp q with q | q
          · exact List.mem_cons.mpr (.inl q)
          · exact List.mem_cons_of_mem _ q
    · cases C with
      | nil =>
        simp only [List.nil_append, List.cons.injEq, Prod.mk.injEq] at e2
        obtain ⟨⟨rfl, _⟩, rfl⟩ := e2
        right
        have e1' : A = ks.map fun k => ((k, false) : Fct × Bool) := by rw [e1]; simp
        rw [e1', List.map_map]
        exact List.mem_map.mpr ⟨k, (hks k).mpr hk, rfl⟩
      | cons c C =>
        simp only [List.cons_append, List.cons.injEq] at e2
        obtain ⟨rfl, rfl⟩ := e2
        have hmem : (f, true) ∈ ks.map fun k => ((k, false) : Fct × Bool) := by rw [e1]; simp
        obtain ⟨k, hk, ek⟩ := List.mem_map.mp hmem
        cases ek
  · rw [mks]
    have h1 := h.nd
    rw [marks_f] at h1
    rw [List.nodup_append] at h1 ⊢
    refine ⟨h1.1, List.nodup_cons.mpr ⟨hm, h1.2.1⟩, fun a ha b hb e => ?_⟩
    subst e
    rcases List.mem_cons.mp hb with q | q
    · exact hg (q ▸ ha)
    · exact h1.2.2 a ha a q rfl
  · rcases List.mem_append.mp hx with q | q
    · obtain ⟨k, hk, rfl⟩ := List.mem_map.mp q
      obtain ⟨w, hw, hk⟩ := (hks k).mp hk
      exact S.cl g hgv w hw k hk
    · rcases List.mem_cons.mp q with q | q
      · rw [q]; exact hgv
      · exact h.vs x (List.mem_cons_of_mem _ q)
/-- a fact that stands on the way down: a ring -/
theorem idx_lt {G : Gr} {Vs : List Fct} {W : Fct → List Way} {R : List Fct} (T : Topo G Vs W R) {f g : Fct} (hf : f ∈ Vs) (h : Kid G W f g) : R.idxOf g < R.idxOf f := by
  have hfR := (T.mem f).mpr hf
  obtain ⟨A, B, e⟩ := List.append_of_mem hfR
  have hA : f ∉ A := fun z => by
    have := T.nd
    rw [e, List.nodup_append] at this
    exact this.2.2 f z f List.mem_cons_self rfl
  have hg := T.ord A f B e g h
  rw [e, List.idxOf_append, if_pos hg, List.idxOf_append, if_neg hA, List.idxOf_cons_self]
  have := List.idxOf_lt_length_of_mem hg
  omega
theorem marks_idx {G : Gr} {Vs : List Fct} {W : Fct → List Way} {R' : List Fct} (T : Topo G Vs W R') : ∀ {st : List (Fct × Bool)}, (∀ A g b B, st = A ++ (g, b) :: B → FirstMark G W g B) → (∀ x ∈ st, x.1 ∈ Vs) → ∀ m ms, marks st = m :: ms → ∀ x ∈ marks st, R'.idxOf m ≤ R'.idxOf x
  | [], _, _, m, ms, e, x, hx => by cases hx
  | (g, false) :: st, hk, hv, m, ms, e, x, hx => marks_idx T (fun A x b B e => hk ((g, false) :: A) x b B (by rw [e]; rfl)) (fun x hx => hv x (List.mem_cons_of_mem _ hx)) m ms e x hx
  | (g, true) :: st, hk, hv, m, ms, e, x, hx => by
    rw [marks_t] at e hx
    obtain ⟨e1, e2⟩ := List.cons.inj e
    subst e1
    rcases List.mem_cons.mp hx with q | q
    · rw [q]; exact Nat.le_refl _
    · cases hm : marks st with
      | nil => rw [hm] at q; cases q
      | cons m' ms' =>
        have h1 := marks_idx T (st := st) (fun A x b B e => hk ((g, true) :: A) x b B (by rw [e]; rfl)) (fun x hx => hv x (List.mem_cons_of_mem _ hx)) m' ms' hm x q
        have h2 : Kid G W m' g := hk [] g true st rfl m' ms' hm
        have h3 : m' ∈ marks st := by rw [hm]; exact List.mem_cons_self
        unfold marks at h3
        obtain ⟨y, hy, ey⟩ := List.mem_map.mp h3
        have h4 : m' ∈ Vs := ey ▸ hv y (List.mem_cons_of_mem _ (List.mem_filter.mp hy).1)
        have h5 := idx_lt T h4 h2
        omega
theorem StOk.ring {G : Gr} {Vs : List Fct} {W : Fct → List Way} {R : List Fct} {g : Fct} {st : List (Fct × Bool)} (h : StOk G Vs W R ((g, false) :: st)) (hg : g ∈ marks st) : ∀ R', ¬ Topo G Vs W R' := by
  intro R' T
  cases hm : marks st with
  | nil => rw [hm] at hg; cases hg
  | cons m ms =>
    have hv : ∀ x ∈ st, x.1 ∈ Vs := fun x hx => h.vs x (List.mem_cons_of_mem _ hx)
    have h1 := marks_idx T (fun A x b B e => h.kid ((g, false) :: A) x b B (by rw [e]; rfl)) hv m ms hm g hg
    have h2 : Kid G W m g := h.kid [] g false st rfl m ms hm
    have h3 : m ∈ marks st := by rw [hm]; exact List.mem_cons_self
    unfold marks at h3
    obtain ⟨y, hy, ey⟩ := List.mem_map.mp h3
    have h5 := idx_lt T (ey ▸ hv y (List.mem_filter.mp hy).1) h2
    omega
def smu (R : List Fct) (st : List (Fct × Bool)) : Nat := (288 - R.length - (marks st).length) * 290 + st.length
end Rg
namespace Rg
open PySem PySem.Spec L2
section
variable {P : Program} {w : World} {K : PySem.W.Frag} {mg : Str → Option Value} {base : Heap} {f : Addr} {fd : FuncData}
def sp_beneath : Sp := fun vs H Q _ => ∃ (a wl : Addr) (G : Gr) (ws : List Way), vs = [.ref a, .ref wl] ∧ LD H a (G.map eRl) ∧ LD H wl (ws.map eWay) ∧ (∀ w ∈ ws, WOk G w ∧ ∀ g ∈ partsW G w, PyData.strOk g.1 = true) ∧ ws.length ≤ 10368 ∧ (∀ r ∈ G, r.ps.length ≤ 4 ∧ ∀ p ∈ r.ps, p.length < 1000) ∧
  ∀ H' p, Same H H' → H p = none → LD H' p ((benF G ws).map eFct) → Q (.ref p) H'
theorem insL_len2 : ∀ (bs l : List Fct), (bs.foldl insL l).length ≤ l.length + bs.length
  | [], l => Nat.le_refl _
  | b :: bs, l => by
    have h1 := insL_len2 bs (insL l b)
    have h2 : (insL l b).length ≤ l.length + 1 := by
      unfold insL
      split
      · omega
      · simp
    rw [List.foldl_cons, List.length_cons]
    omega
theorem partsW_len4 {G : Gr} (h : ∀ r ∈ G, r.ps.length ≤ 4 ∧ ∀ p ∈ r.ps, p.length < 1000) (w : Way) : (partsW G w).length ≤ 4 := by
  unfold partsW
  split
  · rename_i r hr
    exact Nat.le_trans (partsK_len _ _ _) (h r (List.mem_of_getElem? hr)).1
  · exact Nat.zero_le _
theorem benA_len {G : Gr} (h : ∀ r ∈ G, r.ps.length ≤ 4 ∧ ∀ p ∈ r.ps, p.length < 1000) : ∀ (ws : List Way) (acc : List Fct), (ws.foldl (fun acc w => (partsW G w).foldl insL acc) acc).length ≤ acc.length + 4 * ws.length
  | [], acc => Nat.le_refl _
  | w :: ws, acc => by
    have h1 := benA_len h ws ((partsW G w).foldl insL acc)
    have h2 := insL_len2 (partsW G w) acc
    have h3 := partsW_len4 h w
    rw [List.foldl_cons, List.length_cons]
    omega
theorem ok_beneath (F : Fun K "beneath" "beneath" st_beneath f fd) (Cp : Cal P w K mg base 2 "parts_of" ["grammar", "way"] sp_parts_of) : FnOk P w K mg base CX0 3 f fd ["grammar", "ways"] sp_beneath := by
  refine F.ok sc_beneath (fun vs H Q E h => ?_) (fun cdv A outer s H vs Q E hr h => ?_)
  · obtain ⟨a, wl, G, ws, rfl, _⟩ := h
    rfl
  · obtain ⟨a, wl, G, ws, rfl, ⟨gvs, hgv, hG⟩, ⟨wvs, hwv, hW⟩, hws, hwl, hpl, k⟩ := h
    have nd := sc_beneath.nd
    refine ⟨_, pss_cons (ps_set (i := 2) nd rfl (Or.inl rfl) (pe_lst pa_nil))
      (pss_cons (ps_for PassesOwn.never rfl (pi_list (pv 1)) (pg_name (i := 3) nd rfl (Or.inl rfl))
        (pss_one (ps_for PassesOwn.never rfl (pi_list (pe_cal Cp hr rfl (pa_cons (pv 0) (pa_cons (pv 3) pa_nil)))) (pg_name (i := 4) nd rfl (Or.inl rfl))
          (pss_one (ps_if (pt_cmpR (op_notInD (hu65 hr)) (pv 4) (pv 2) rfl) (pss_one (ps_expr (pe_app (pv 2) (pv 4)))) pss_nil)))))
      (pss_one (ps_ret (pv 2)))), ?_⟩
    have lW := hW.length
    rw [List.length_map] at lW
    refine ⟨by decide, fun pf hpf => ?_⟩
    have s0 : Same H (upd H pf (.lst [])) := same_new hpf
    refine ⟨_, rfl, wl, rfl, ⟨_, SqL.of (s0 _ _ hwv)⟩, for_list (K := K) (a := wl) (xs := wvs) (fun i σ Hc => ∃ (o3 o4 : Option V), σ = [some (.ref a), some (.ref wl), some (.ref pf), o3, o4] ∧ Same H Hc ∧ LD Hc pf ((benF G (ws.take i)).map eFct))
      ⟨none, none, rfl, s0, [], upd_same, .nil⟩ (fun i σ Hc _ ⟨_, _, _, s, _⟩ => SqL.of (s _ _ hwv)) ?_ ?_⟩
    · rintro i y σ Hc hi ⟨o3, o4, rfl, sc, us, hus, hU⟩
      obtain ⟨w', hw1, hw2⟩ := paired_get (pairedIs hW) hi
      obtain ⟨wa, ca, ew, hwa, hca⟩ := isWay hw2
      subst ew
      have hwm := List.mem_of_getElem? hw1
      refine ⟨_, rfl, _, rfl, a, wa, G, w', rfl, ⟨gvs, sc _ _ hgv, hG.mono sc⟩, hw2.mono sc, (hws w' hwm).1, hpl, fun H2 q s2 hq hPL => ?_⟩
      obtain ⟨zs, hzs, hZ⟩ := hPL
      have h2f := s2 _ _ hus
      have hqf : q ≠ pf := fun z => by subst z; rw [hus] at hq; cases hq
      have lz := hZ.length
      rw [List.length_map] at lz
      have hqb : but H2 pf q = some (.lst zs) := by rw [but_ne hqf]; exact hzs
      have tb : TuS H2 (but H2 pf) := fun b xs e => but_of e h2f (fun z => nomatch z)
      have hZb := hZ.monoT tb
      have sHb : Same H (but H2 pf) := same_but (sc.trans s2) hpf
      have et : benF G (ws.take (i + 1)) = (partsW G w').foldl insL (benF G (ws.take i)) := by
        unfold benF
        rw [take_succ_of hw1, List.foldl_append]
        rfl
      have hbl : (benF G (ws.take i)).length ≤ 41472 := by
        have := benA_len hpl (ws.take i) []
        have h2 : (ws.take i).length ≤ ws.length := by rw [List.length_take]; omega
        unfold benF
        simp only [List.length_nil] at this
        omega
      have hbok : ∀ g ∈ benF G (ws.take i), PyData.strOk g.1 = true := fun g hg => by
        obtain ⟨w2, hw2, hg2⟩ := mem_ben.mp hg
        exact (hws w2 (List.mem_of_mem_take hw2)).2 g hg2
      have hpw4 := partsW_len4 hpl w'
      have hpok := (hws w' hwm).2
      rw [et]
      generalize hBB : benF G (ws.take i) = BB at *
      generalize hPP : partsW G w' = PP at *
      refine ⟨q, rfl, ⟨_, SqL.of hzs⟩, for_list (K := K) (a := q) (xs := zs) (fun t σ Hx => ∃ o4 : Option V, σ = [some (.ref a), some (.ref wl), some (.ref pf), some (.ref wa), o4] ∧ Same (but H2 pf) Hx ∧ LD Hx pf (((PP.take t).foldl insL BB).map eFct))
        ⟨o4, rfl, but_same, us, h2f, hU.mono s2⟩ (fun t σ Hx _ ⟨_, _, s, _⟩ => SqL.of (s _ _ hqb)) ?_ ?_⟩
      · rintro t y σ Hx ht ⟨o4, rfl, sx, vs2, hvs2, hV2⟩
        obtain ⟨g, hg1, hg2⟩ := paired_get (pairedIs hZb) ht
        obtain ⟨ga, eg, hga⟩ := isFct hg2
        subst eg
        have hgm := List.mem_of_getElem? hg1
        have etk : (PP.take (t + 1)).foldl insL BB = insL ((PP.take t).foldl insL BB) g := by rw [take_succ_of hg1, List.foldl_append]; rfl
        have hok : ∀ g ∈ (PP.take t).foldl insL BB, PyData.strOk g.1 = true := fun g hg => by
          rcases mem_insL.mp hg with h | h
          · exact hbok g h
          · exact hpok g (List.mem_of_mem_take h)
        have hcl := insL_len2 (PP.take t) BB
        have htl : (PP.take t).length ≤ 4 := by rw [List.length_take]; omega
        rw [etk]
        generalize (PP.take t).foldl insL BB = cur at *
        have lv := hV2.length
        rw [List.length_map] at lv
        have hgx := hg2.mono sx
        refine ⟨_, rfl, _, rfl, eFct g, cur.map eFct, hgx.dp K, .lst (SqL.of hvs2) (hV2.dp K), shp_fct (hpok g hgm), shp_fcts hok, _, rfl, ?_⟩
        rw [any_fct]
        by_cases hc : g ∈ cur
        · rw [decide_eq_true hc]
          refine iteF ⟨_, rfl, sx, vs2, hvs2, ?_⟩
          unfold insL
          rw [if_pos hc]
          exact hV2
        · rw [decide_eq_false hc]
          refine iteT ⟨_, rfl, .inl ⟨rfl, _, SqL.of hvs2⟩, _, rfl, pf, vs2, _, rfl, rfl, hvs2, small6 (by omega), _, rfl, same_upd sx but_none, _, upd_same, ?_⟩
          unfold insL
          rw [if_neg hc, List.map_append]
          exact (hV2.monoT (TuS.lst hvs2)).append (.cons (hgx.monoT (TuS.lst hvs2)) .nil)
      · rintro σ Hx ⟨o4, rfl, sx, hL⟩
        rw [lz, List.take_length] at hL
        exact ⟨_, _, rfl, sHb.trans sx, hL⟩
    · rintro σ Hc ⟨o3, o4, rfl, sc, hL⟩
      rw [lW, List.take_length] at hL
      exact ⟨_, rfl, k Hc pf sc hpf hL⟩
end
end Rg
namespace Rg
open PySem PySem.Spec L2
def eEnt (x : Fct × Bool) : PyData := .tuple [eFct x.1, .bool x.2]
theorem isEnt {H : Hp} {v : V} {x : Fct × Bool} (h : Is H v (eEnt x)) : ∃ T fa, v = .ref T ∧ H T = some (.tup [.ref fa, .bl x.2]) ∧ H fa = some (.tup [.str x.1.1, vN x.1.2.1, vN x.1.2.2]) := by
  obtain ⟨a, xs, rfl, ha, hx⟩ := h.tup_inv
  obtain ⟨v1, r1, rfl, b1, hx⟩ := hx.cons_inv
  obtain ⟨v2, r2, rfl, b2, hx⟩ := hx.cons_inv
  rw [hx.nil_inv, b2.bl_inv] at ha
  obtain ⟨fa, rfl, hf⟩ := isFct b1
  exact ⟨a, fa, rfl, ha, hf⟩
theorem first_of {α : Type} {p : α → Bool} : ∀ {l : List α}, l.any p = true → ∃ (j : Nat) (z : α), l[j]? = some z ∧ p z = true ∧ ∀ (m : Nat) (z' : α), m < j → l[m]? = some z' → p z' = false
  | [], h => by cases h
  | a :: l, h => by
    by_cases ha : p a = true
    · exact ⟨0, a, rfl, ha, fun m z' hm => absurd hm (Nat.not_lt_zero _)⟩
    · rw [List.any_cons, Bool.eq_false_iff.mpr ha, Bool.false_or] at h
      obtain ⟨j, z, h1, h2, h3⟩ := first_of h
      refine ⟨j + 1, z, by simpa using h1, h2, fun m z' hm e => ?_⟩
      cases m with
      | zero =>
        have : a = z' := by simpa using e
        rw [← this]
        exact Bool.eq_false_iff.mpr ha
      | succ m => exact h3 m z' (by omega) (by simpa using e)
theorem grvPT {K : PySem.W.Frag} {H : Hp} : ∀ {vs : List V} {S : List (Fct × List Way)}, Paired (GV H) vs S → ∃ (ps : List Addr) (kvs : List (List Key × V)), vs = ps.map V.ref ∧ PT K H ps kvs ∧ kvs.map (·.1) = S.map (fun s => fKey s.1) ∧
    ∀ q ∈ kvs, ∃ s ∈ S, ∃ wl, q = (fKey s.1, .ref wl) ∧ LD H wl (s.2.map eWay)
  | _, _, .nil => ⟨[], [], rfl, .nil, rfl, fun _ h => absurd h List.not_mem_nil⟩
  | _, _, .cons (b := s) h t => by
    obtain ⟨ps, kvs, rfl, h1, h2, h3⟩ := grvPT (K := K) t
    obtain ⟨T, fa, wl, rfl, hT, hf, hw⟩ := h
    refine ⟨T :: ps, (fKey s.1, .ref wl) :: kvs, rfl, .cons ⟨fa, SqT.of hT, hf⟩ h1, by rw [List.map_cons, List.map_cons, h2], fun q hq => ?_⟩
    rcases List.mem_cons.mp hq with e | hq
    · exact ⟨s, List.mem_cons_self, wl, e, hw⟩
    · obtain ⟨s', h4, h5⟩ := h3 q hq
      exact ⟨s', List.mem_cons_of_mem _ h4, h5⟩
theorem marks_down (g : Fct) (ks : List Fct) (st : List (Fct × Bool)) : marks (ks.map (fun k => (k, false)) ++ (g, true) :: st) = g :: marks st := by
  unfold marks
  rw [List.filter_append, List.map_append]
  have : (ks.map fun k => ((k, false) : Fct × Bool)).filter (·.2) = [] := List.filter_eq_nil_iff.mpr fun x hx => by
    obtain ⟨k, _, rfl⟩ := List.mem_map.mp hx
    simp
  rw [this]
  rfl
theorem StOk.len {G : Gr} {Vs : List Fct} {W : Fct → List Way} (S : Grv G Vs W) {R : List Fct} {st : List (Fct × Bool)} (h : StOk G Vs W R st) : R.length + (marks st).length ≤ 288 := by
  have := nodup_len h.nd (m := Vs) fun x hx => by
    rcases List.mem_append.mp hx with q | q
    · exact h.rv x q
    · unfold marks at q
      obtain ⟨y, hy, rfl⟩ := List.mem_map.mp q
      exact h.vs y (List.mem_filter.mp hy).1
  rw [List.length_append] at this
  have := S.len
  omega
def muS (pr pw pp : Addr) (_ : L2.St) (H : Hp) : Nat := match H pr, H pw, H pp with
  | some (HO.lst rs), some (HO.lst ws), some (HO.lst us) => (288 - rs.length - ws.length) * 290 + us.length
  | _, _, _ => 0
theorem muS_eq {pr pw pp : Addr} {σ : L2.St} {H : Hp} {rs ws us : List V} {R : List Fct} {st : List (Fct × Bool)} (h1 : H pr = some (HO.lst rs)) (h2 : H pw = some (HO.lst ws)) (h3 : H pp = some (HO.lst us)) (e1 : rs.length = R.length) (e2 : ws.length = (marks st).length) (e3 : us.length = st.length) : muS pr pw pp σ H = smu R st := by
  unfold muS smu
  rw [h1, h2, h3]
  show (288 - rs.length - ws.length) * 290 + us.length = _
  rw [e1, e2, e3]
theorem last_rev {α : Type} {st : List α} {b : α} (h : st.reverse.getLast? = some b) : ∃ st', st = b :: st' := by
  rw [List.getLast?_reverse] at h
  cases st with
  | nil => cases h
  | cons a st => cases h; exact ⟨st, rfl⟩
theorem drop_rev {α : Type} (b : α) (st : List α) : (b :: st).reverse.dropLast = st.reverse := by
  rw [List.reverse_cons, List.dropLast_concat]
section
variable {P : Program} {w : World} {K : PySem.W.Frag} {mg : Str → Option Value} {base : Heap} {f : Addr} {fd : FuncData}
def sp_gone_down : Sp := fun vs H Q _ => ∃ (a p : Addr) (G : Gr) (Vs : List Fct) (W : Fct → List Way), vs = [.ref a, .ref p] ∧ LD H a (G.map eRl) ∧ GrvAt H p (grvW Vs W) ∧ Grv G Vs W ∧
  (∀ H' q l r, Same H H' → (∀ R, ¬ Topo G Vs W R) → H' q = some (.tup [.ref l, .ref r]) → Q (.ref q) H') ∧
  (∀ H' q r R, Same H H' → Topo G Vs W R → H' q = some (.tup [.non, .ref r]) → LD H' r (R.map eFct) → Q (.ref q) H')
theorem ok_gone_down (F : Fun K "gone_down" "gone_down" st_gone_down f fd) (B : Bl mg) (Cb : Cal P w K mg base 3 "beneath" ["grammar", "ways"] sp_beneath) : FnOk P w K mg base CX0 4 f fd ["grammar", "some"] sp_gone_down := by
  refine F.ok sc_gone_down (fun vs H Q E h => ?_) (fun cdv A outer s H vs Q E hr h => ?_)
  · obtain ⟨a, p, G, Vs, W, rfl, _⟩ := h
    rfl
  · obtain ⟨a, p, G, Vs, W, rfl, ⟨gvs, hgv, hG⟩, ⟨vs0, hv0, hP0⟩, S, kR, kN⟩ := h
    have nd := sc_gone_down.nd
    have hu := hu_of hr
    refine ⟨_, pss_cons (ps_set (i := 2) nd rfl (Or.inl rfl) (pe_callTy (call_dictT rfl (Nat.lt_of_le_of_lt (Nat.add_le_add_left (by decide : 2 ≤ 64) _) hr.units)) rfl B.dict PyProof.Rows.boot_dict (pa_cons (pv 1) pa_nil)))
      (pss_cons (ps_set (i := 3) nd rfl (Or.inl rfl) (pe_lst pa_nil))
      (pss_cons (ps_set (i := 4) nd rfl (Or.inl rfl) pe_dnewT)
      (pss_cons (ps_for PassesOwn.never rfl (pi_list (pv 1)) (pg_tup rfl (pgs_cons (pg_name (i := 5) nd rfl (Or.inl rfl)) (pgs_cons (pg_name (i := 6) nd rfl (Or.inl rfl)) pgs_nil)))
        (pss_cons (ps_set (i := 7) nd rfl (Or.inl rfl) (pe_lst pa_nil))
        (pss_cons (ps_set (i := 8) nd rfl (Or.inl rfl) (pe_lst (pa_cons (pe_tup (pa_cons (pv 5) (pa_cons pe_bl pa_nil))) pa_nil)))
        (pss_one (ps_while PassesOwn.never (pt_cmpR (op_neE hr.units0) (pv 8) (pe_lst pa_nil) (nomark _))
          (pss_cons (ps_asg (pe_pop (pv 8)) (pg_tup rfl (pgs_cons (pg_name (i := 9) nd rfl (Or.inl rfl)) (pgs_cons (pg_name (i := 10) nd rfl (Or.inl rfl)) pgs_nil))))
          (pss_one (ps_if (pt_val (pv 10))
            (pss_cons (ps_expr (pe_pop (pv 7))) (pss_cons (ps_dput hu (pv 4) (pv 9) pe_bl rfl) (pss_one (ps_expr (pe_app (pv 3) (pv 9))))))
            (pss_one (ps_if (pt_cmpR (op_inD (hu65 hr)) (pv 9) (pv 7) rfl)
              (pss_one (ps_ret (pe_tup (pa_cons (pe_slice sl_list (pv 7) (po_some (pe_bm PySem.F.plainAttrs_list PySem.F.slot_list_index PySem.F.type_list_index (mt_indexD (hu65 hr)) (pv 7) (pa_cons (pv 9) pa_nil))) po_none) (pa_cons (pv 3) pa_nil)))))
              (pss_one (ps_if (pt_cmp (pc_dnotin hu (pv 9) (pv 4)))
                (pss_cons (ps_expr (pe_app (pv 7) (pv 9)))
                (pss_cons (ps_expr (pe_app (pv 8) (pe_tup (pa_cons (pv 9) (pa_cons pe_bl pa_nil)))))
                (pss_one (ps_expr (pe_ext (pv 8) (pe_lc (own := [("part", 11)]) (g := gName 11) (tt := tYes) rfl nd (pi_list (pe_cal Cb hr rfl (pa_cons (pv 0) (pa_cons (pe_dget hu (pv 2) (pv 9) (fun _ _ => rfl)) pa_nil))))
                  (blkOk_by (N := ["grammar", "some", "ways", "ready", "done", "top", "own", "way_down", "pile", "fact", "over", "part"]) (sc := defScope st_gone_down) (by decide +kernel))
                  (fun _ _ _ _ _ => pg_name (i := 11) nd rfl (Or.inl rfl)) (fun _ _ _ _ _ => pts_nil)
                  (fun _ _ _ _ _ => pe_tup (pa_cons (pv 11) (pa_cons pe_bl pa_nil)))))))))
                pss_nil))))))))))))
      (pss_one (ps_ret (pe_tup (pa_cons pe_non (pa_cons (pv 3) pa_nil)))))))), ?_⟩
    obtain ⟨ps0, kv0, rfl, hPT, hkk, hkv⟩ := grvPT (K := K) hP0
    have hkk' : kv0.map (·.1) = Vs.map fKey := by rw [hkk]; unfold grvW; rw [List.map_map]; rfl
    refine ⟨_, rfl, p, ps0, kv0, rfl, SqL.of hv0, hPT, ?_, fun pd hpd => ?_⟩
    · rw [hkk', List.Nodup, List.pairwise_map]
      exact S.nd.imp fun h e => h (fKey_inj e)
    have s0 : Same H (upd H pd (.dT kv0)) := same_new hpd
    have hsd : (upd H pd (.dT kv0)) pd = some (.dT kv0) := upd_same
    generalize hHs : upd H pd (.dT kv0) = Hs at *
    have hsv0 := s0 _ _ hv0
    refine ⟨by decide, fun pr hpr pdn hpdn => ?_⟩
    have s1 := (same_new (o := .lst []) hpr)
    have hpdnS : Hs pdn = none := s1.free hpdn
    have hrd : pr ≠ pdn := ne_of_none (H := upd Hs pr (.lst [])) upd_same hpdn
    have s2 := s1.trans (same_new (o := .dT []) hpdn)
    refine ⟨_, rfl, p, rfl, ⟨_, SqL.of (s2 _ _ hsv0)⟩, for_list (K := K) (a := p) (xs := ps0.map V.ref) (fun i σ Hc => ∃ (o5 o6 o7 o8 o9 o10 o11 : Option V) (R : List Fct) (rs : List V) (dk : List (List Key × V)), σ = [some (.ref a), some (.ref p), some (.ref pd), some (.ref pr), some (.ref pdn), o5, o6, o7, o8, o9, o10, o11] ∧ Same Hs Hc ∧
        Hc pr = some (.lst rs) ∧ IsL Hc rs (R.map eFct) ∧ Hc pdn = some (.dT dk) ∧ dk.map (·.1) = R.map fKey ∧ StOk G Vs W R [] ∧ (∀ g ∈ Vs.take i, g ∈ R))
      ⟨none, none, none, none, none, none, none, [], [], [], rfl, s2, by rw [upd_ne hrd]; exact upd_same, .nil, upd_same, rfl, ⟨fun A g b B e => absurd e (by simp), fun A g B e => absurd e (by simp), List.nodup_nil, fun _ h => absurd h List.not_mem_nil, fun _ h => absurd h List.not_mem_nil, fun A g B e => absurd e (by simp)⟩, by simp⟩
      (fun i σ Hc _ ⟨_, _, _, _, _, _, _, _, _, _, _, s, _⟩ => SqL.of (s _ _ hsv0)) ?_ ?_⟩
    · rintro i y σ Hc hi ⟨o5, o6, o7, o8, o9, o10, o11, R, rs, dk, rfl, sc, hcr, hRs, hcd, hdk, hSt, hdone⟩
      obtain ⟨sx, hsx, T, fa0, wl0, rfl, hT, hfa0, hwl0⟩ := paired_get hP0 hi
      unfold grvW at hsx
      rw [List.getElem?_map] at hsx
      cases evi : Vs[i]? with
      | none => rw [evi] at hsx; cases hsx
      | some f0 =>
        rw [evi] at hsx
        cases hsx
        have hf0V : f0 ∈ Vs := List.mem_of_getElem? evi
        have sHc : Same H Hc := s0.trans sc
        refine ⟨T, _, rfl, SqT.of (sHc _ _ hT), rfl, _, _, rfl, _, _, rfl, rfl, by decide, fun pw hpw => ?_⟩
        have s3 := (same_new (o := .lst []) hpw)
        refine ⟨_, rfl, by show 2 ≤ sizeLine; decide, fun T1 hT1 => ⟨by show 1 ≤ sizeLine; decide, fun pp hpp => ?_⟩⟩
        have s4 := s3.trans (same_new (o := .tup [.ref fa0, .bl false]) hT1)
        have s5 := s4.trans (same_new (o := .lst [.ref T1]) hpp)
        have hpwS : Hs pw = none := sc.free hpw
        have hppS : Hs pp = none := (sc.trans s4).free hpp
        have hrw : pr ≠ pw := ne_of_none hcr hpw
        have hrp : pr ≠ pp := ne_of_none (s4 _ _ hcr) hpp
        have hwT : pw ≠ T1 := ne_of_none (H := upd Hc pw (.lst [])) upd_same hT1
        have hwp : pw ≠ pp := fun z => by
          subst z
          rw [upd_ne hwT, upd_same] at hpp
          cases hpp
        have hfaS : Hc fa0 = some (.tup [.str f0.1, vN f0.2.1, vN f0.2.2]) := sHc _ _ hfa0
        refine while_by (fun σ Hc => ∃ (R : List Fct) (st : List (Fct × Bool)) (rs ws us : List V) (dk : List (List Key × V)) (o9 o10 o11 : Option V), σ = [some (.ref a), some (.ref p), some (.ref pd), some (.ref pr), some (.ref pdn), some (.ref fa0), some (.ref wl0), some (.ref pw), some (.ref pp), o9, o10, o11] ∧ Same Hs Hc ∧
            Hc pr = some (.lst rs) ∧ IsL Hc rs (R.map eFct) ∧ Hc pdn = some (.dT dk) ∧ dk.map (·.1) = R.map fKey ∧ Hc pw = some (.lst ws) ∧ IsL Hc ws ((marks st).reverse.map eFct) ∧ Hc pp = some (.lst us) ∧ IsL Hc us (st.reverse.map eEnt) ∧
            StOk G Vs W R st ∧ (∀ g ∈ Vs.take i, g ∈ R) ∧ (f0 ∈ R ∨ f0 ∈ st.map (·.1)) ∧ smu R st ≤ 90000)
          (muS pr pw pp)
          ⟨R, [(f0, false)], rs, [], [.ref T1], dk, o9, o10, o11, rfl, sc.trans s5, s5 _ _ hcr, hRs.mono s5, s5 _ _ hcd, hdk, ?_, .nil, upd_same, .cons (.tup (by rw [upd_ne (ne_of_none (H := upd (upd Hc pw (.lst [])) T1 (.tup [.ref fa0, .bl false])) upd_same hpp)]; exact upd_same) (.cons (FctIs (s5 _ _ hfaS)) (.cons (.bl _) .nil))) .nil, ?_, hdone, .inr (by simp), ?_⟩ ?_
          (fun σ H Q Q' h ⟨v, e, sz, q⟩ => ⟨v, e, sz, fun p hp => let ⟨a, b, xs, e1, e2, e3, e4, kk, e5, q⟩ := q p hp; ⟨a, b, xs, e1, e2, e3, e4, kk, e5, h _ _ q⟩⟩)
        · rw [upd_ne hwp, upd_ne hwT]
          exact upd_same
        · refine ⟨fun A g b B e => ?_, fun A g B e => ?_, ?_, fun x hx => ?_, hSt.rv, hSt.ord⟩
          · cases A with
            | nil =>
              simp only [List.nil_append, List.cons.injEq, Prod.mk.injEq] at e
              obtain ⟨_, rfl⟩ := e
              intro m ms em
              cases em
            | cons c A => simp at e
          · cases A with
            | nil => simp at e
            | cons c A => simp at e
          · exact hSt.nd
          · rw [List.mem_singleton.mp hx]
            exact hf0V
        · unfold smu
          simp only [List.length_singleton]
          omega
        · clear hcr hRs hcd hdk hSt hdone sc hpw s3 hT1 s4 hpp s5 hwT hfaS sHc
          rintro σ Hc ⟨R, st, rs, ws, us, dk, o9, o10, o11, rfl, sc, hcr, hRs, hcd, hdk, hcw, hWs, hcp, hU, hSt, hdone, hf0, hmu⟩
          have sHc : Same H Hc := s0.trans sc
          refine ⟨_, rfl, by decide, fun q hq => ⟨pp, q, us, rfl, rfl, SqL.of ((same_new hq) _ _ hcp), SqL.of upd_same, _, rfl, ?_⟩⟩
          have sq : Same Hc (upd Hc q (.lst [])) := same_new hq
          have lr := hRs.length
          have lw := hWs.length
          have lu := hU.length
          rw [List.length_map] at lr
          rw [List.length_map, List.length_reverse] at lw lu
          rw [muS_eq (R := R) (st := st) hcr hcw hcp lr lw lu]
          have hS288 := hSt.len S
          cases hemp : us.isEmpty with
          | true =>
            have eus : us = [] := List.isEmpty_iff.mp hemp
            have est : st = [] := by
              rw [eus] at lu
              exact List.eq_nil_of_length_eq_zero lu.symm
            subst est
            refine iteF ⟨_, _, _, _, _, _, _, R, rs, dk, rfl, sc.trans sq, sq _ _ hcr, hRs.mono sq, sq _ _ hcd, hdk, hSt, fun g hg => ?_⟩
            rw [take_succ_of evi] at hg
            rcases List.mem_append.mp hg with h | h
            · exact hdone g h
            · rw [List.mem_singleton.mp h]
              rcases hf0 with h | h
              · exact h
              · cases h
          | false =>
            refine iteT ?_
            have hne : us ≠ [] := fun z => by rw [z] at hemp; cases hemp
            obtain ⟨v, ⟨g, over⟩, hlast, hgl, hgv2, hUd⟩ := popIs (hU.mono sq) hne
            obtain ⟨st', rfl⟩ := last_rev hgl
            rw [drop_rev] at hUd
            obtain ⟨T2, fa, ev, hT2, hfa⟩ := isEnt hgv2
            subst ev
            generalize hH5 : upd Hc q (.lst []) = H5 at *
            have h5p : H5 pp = some (.lst us) := sq _ _ hcp
            have t6 : TuS H5 (upd H5 pp (.lst us.dropLast)) := TuS.lst h5p
            have s6 : Same Hs (upd H5 pp (.lst us.dropLast)) := same_upd (sc.trans sq) hppS
            have h6p : (upd H5 pp (.lst us.dropLast)) pp = some (.lst us.dropLast) := upd_same
            have h6w : (upd H5 pp (.lst us.dropLast)) pw = some (.lst ws) := by rw [upd_ne hwp]; exact sq _ _ hcw
            have h6r : (upd H5 pp (.lst us.dropLast)) pr = some (.lst rs) := by rw [upd_ne hrp]; exact sq _ _ hcr
            have h6d : (upd H5 pp (.lst us.dropLast)) pdn = some (.dT dk) := by rw [upd_ne (ne_of (sq _ _ hcd) h5p (fun z => nomatch z))]; exact sq _ _ hcd
            refine ⟨_, rfl, .inl ⟨rfl, us, SqL.of h5p⟩, pp, us, _, rfl, rfl, h5p, hlast, ?_⟩
            have t06 : TuS Hc (upd H5 pp (.lst us.dropLast)) := (TuS.of sq).trans t6
            generalize hH6 : upd H5 pp (.lst us.dropLast) = H6 at *
            have hT26 := t6 _ _ hT2
            have hfa6 := t6 _ _ hfa
            have hgV : g ∈ Vs := hSt.vs _ List.mem_cons_self
            have lud : us.dropLast.length = st'.length := by rw [List.length_dropLast, lu, List.length_cons]; omega
            refine ⟨T2, _, rfl, SqT.of hT26, rfl, _, _, rfl, _, _, rfl, rfl, _, rfl, over, rfl, ?_⟩
            cases over with
            | true =>
              refine iteT ?_
              have hSt2 := hSt.over
              have hwne : ws ≠ [] := fun z => by
                rw [z, marks_t] at lw
                cases lw
              have hWs' : IsL Hc ws ((g :: marks st').reverse.map eFct) := hWs
              obtain ⟨wv, wg, hwlast, _, _, hWd⟩ := popIs (hWs'.monoT t06) hwne
              rw [drop_rev] at hWd
              have hgR : g ∉ R := fun hg => by
                have := hSt.nd
                rw [List.nodup_append] at this
                exact this.2.2 g hg g (by rw [marks_t]; exact List.mem_cons_self) rfl
              have evn : valV dk (fKey g) = none := by
                cases q : valV dk (fKey g) with
                | none => rfl
                | some v => exact absurd (fKey_mem.mp (hdk ▸ valV_in q)) hgR
              have ldk := keys_len hdk
              refine ⟨_, rfl, .inl ⟨rfl, ws, SqL.of h6w⟩, pw, ws, _, rfl, rfl, h6w, hwlast, ?_⟩
              have t7 : TuS H6 (upd H6 pw (.lst ws.dropLast)) := TuS.lst h6w
              have s7 : Same Hs (upd H6 pw (.lst ws.dropLast)) := same_upd s6 hpwS
              have h7d : (upd H6 pw (.lst ws.dropLast)) pdn = some (.dT dk) := by rw [upd_ne (ne_of h6d h6w (fun z => nomatch z))]; exact h6d
              have h7r : (upd H6 pw (.lst ws.dropLast)) pr = some (.lst rs) := by rw [upd_ne hrw]; exact h6r
              have h7p : (upd H6 pw (.lst ws.dropLast)) pp = some (.lst us.dropLast) := by rw [upd_ne (Ne.symm hwp)]; exact h6p
              have h7w : (upd H6 pw (.lst ws.dropLast)) pw = some (.lst ws.dropLast) := upd_same
              generalize upd H6 pw (.lst ws.dropLast) = H7 at *
              refine ⟨_, rfl, _, rfl, pdn, _, rfl, DPut.t (k := fKey g) h7d (t7 _ _ hfa6) (small6 (by omega)), ?_⟩
              rw [putK_new _ evn]
              have t8 : TuS H7 (upd H7 pdn (.dT (dk ++ [(fKey g, .bl true)]))) := TuS.wr h7d fun _ z => nomatch z
              have s8 : Same Hs (upd H7 pdn (.dT (dk ++ [(fKey g, .bl true)]))) := same_upd s7 hpdnS
              have h8d : (upd H7 pdn (.dT (dk ++ [(fKey g, .bl true)]))) pdn = some (.dT (dk ++ [(fKey g, .bl true)])) := upd_same
              have h8r : (upd H7 pdn (.dT (dk ++ [(fKey g, .bl true)]))) pr = some (.lst rs) := by rw [upd_ne hrd]; exact h7r
              have h8p : (upd H7 pdn (.dT (dk ++ [(fKey g, .bl true)]))) pp = some (.lst us.dropLast) := by rw [upd_ne (ne_of h7p h7d (fun z => nomatch z))]; exact h7p
              have h8w : (upd H7 pdn (.dT (dk ++ [(fKey g, .bl true)]))) pw = some (.lst ws.dropLast) := by rw [upd_ne (ne_of h7w h7d (fun z => nomatch z))]; exact h7w
              generalize upd H7 pdn (.dT (dk ++ [(fKey g, .bl true)])) = H8 at *
              refine ⟨_, rfl, .inl ⟨rfl, _, SqL.of h8r⟩, _, rfl, pr, rs, _, rfl, rfl, h8r, small6 (by omega), ?_⟩
              have t9 : TuS H8 (upd H8 pr (.lst (rs ++ [.ref fa]))) := TuS.lst h8r
              have tA : TuS H6 (upd H8 pr (.lst (rs ++ [.ref fa]))) := (t7.trans t8).trans t9
              have h9d : (upd H8 pr (.lst (rs ++ [.ref fa]))) pdn = some (.dT (dk ++ [(fKey g, .bl true)])) := by rw [upd_ne (Ne.symm hrd)]; exact h8d
              have h9w : (upd H8 pr (.lst (rs ++ [.ref fa]))) pw = some (.lst ws.dropLast) := by rw [upd_ne (Ne.symm hrw)]; exact h8w
              have h9p : (upd H8 pr (.lst (rs ++ [.ref fa]))) pp = some (.lst us.dropLast) := by rw [upd_ne (Ne.symm hrp)]; exact h8p
              have lwd : ws.dropLast.length = (marks st').length := by rw [List.length_dropLast, lw, marks_t, List.length_cons]; omega
              have hdec : smu (R ++ [g]) st' < smu R ((g, true) :: st') := by
                unfold smu
                rw [marks_t] at hS288 ⊢
                simp only [List.length_append, List.length_cons, List.length_nil] at hS288 ⊢
                omega
              refine ⟨⟨R ++ [g], st', _, _, _, _, _, _, _, rfl, same_upd s8 hpr, upd_same, ?_, h9d, ?_, h9w, hWd.monoT tA, h9p, hUd.monoT (t6.trans tA), hSt2, fun k hk => List.mem_append_left _ (hdone k hk), ?_, by omega⟩, ?_⟩
              · rw [List.map_append]
                exact (hRs.monoT (t06.trans tA)).append (.cons (FctIs (tA _ _ hfa6)) .nil)
              · rw [List.map_append, List.map_append, hdk]
                rfl
              · rcases hf0 with h | h
                · exact .inl (List.mem_append_left _ h)
                · rcases List.mem_cons.mp h with h | h
                  · exact .inl (List.mem_append_right _ (List.mem_singleton.mpr h))
                  · exact .inr h
              · rw [muS_eq (R := R ++ [g]) (st := st') upd_same h9w h9p (by rw [List.length_append, List.length_append, lr]; rfl) lwd lud]
                exact hdec
            | false =>
              refine iteF ?_
              have hWs' : IsL H6 ws ((marks st').reverse.map eFct) := hWs.monoT t06
              have hmok : ∀ k ∈ (marks st').reverse, PyData.strOk k.1 = true := fun k hk => by
                rw [List.mem_reverse] at hk
                unfold marks at hk
                obtain ⟨y, hy, rfl⟩ := List.mem_map.mp hk
                exact S.ok _ (hSt.vs y (List.mem_cons_of_mem _ (List.mem_filter.mp hy).1))
              have hgI : Is H6 (.ref fa) (eFct g) := FctIs hfa6
              refine ⟨_, rfl, _, rfl, eFct g, _, hgI.dp K, .lst (SqL.of h6w) (hWs'.dp K), shp_fct (S.ok g hgV), shp_fcts hmok, _, rfl, ?_⟩
              have hany := any_fct g (marks st').reverse
              rw [hany]
              by_cases hgm : g ∈ marks st'
              · rw [decide_eq_true (List.mem_reverse.mpr hgm)] at hany ⊢
                obtain ⟨j, z, hj, hz, hbef⟩ := first_of hany
                refine iteT ⟨_, rfl, _, rfl, .inl ⟨rfl, ws, SqL.of h6w⟩, _, rfl, pw, .ref fa, eFct g, _, j, z, rfl, rfl, .lst (SqL.of h6w) (hWs'.dp K), hgI.dp K, shp_fcts hmok, shp_fct (S.ok g hgV), hj, hz, fun m z' hm e => hbef m z' hm e, _, rfl, pw, ws, rfl, SqL.of h6w, fun l hl => ⟨_, rfl, by show 2 ≤ sizeLine; decide, fun q2 hq2 => ?_⟩⟩
                exact kR _ q2 l pr (((s0.trans s6).trans (same_new hl)).trans (same_new hq2)) (fun R' => hSt.ring hgm R') upd_same
              · rw [decide_eq_false (fun z => hgm (List.mem_reverse.mp z))]
                refine iteF ⟨_, rfl, _, rfl, pdn, _, rfl, DGet.t (k := fKey g) h6d hfa6, _, rfl, ?_⟩
                cases evd : valV dk (fKey g) with
                | some v0 =>
                  have hgR : g ∈ R := fKey_mem.mp (hdk ▸ valV_in evd)
                  have hdec : smu R st' < smu R ((g, false) :: st') := by
                    unfold smu
                    rw [marks_f, List.length_cons]
                    omega
                  refine iteF ⟨⟨R, st', _, _, _, _, _, _, _, rfl, s6, h6r, hRs.monoT t06, h6d, hdk, h6w, hWs', h6p, hUd.monoT t6, hSt.skip hgR, hdone, ?_, by omega⟩, ?_⟩
                  · rcases hf0 with h | h
                    · exact .inl h
                    · rcases List.mem_cons.mp h with h | h
                      · exact .inl (by rw [show f0 = g from h]; exact hgR)
                      · exact .inr h
                  · rw [muS_eq (R := R) (st := st') h6r h6w h6p lr lw lud]
                    exact hdec
                | none =>
                  have hgR : g ∉ R := fun hg => valV_not evd (hdk ▸ fKey_mem.mpr hg)
                  have hwsl : ws.length ≤ 288 := by
                    rw [lw]
                    omega
                  have hstl : st'.length ≤ 90000 := by
                    have : smu R ((g, false) :: st') ≤ 90000 := hmu
                    unfold smu at this
                    rw [List.length_cons] at this
                    omega
                  refine iteT ⟨_, rfl, .inl ⟨rfl, ws, SqL.of h6w⟩, _, rfl, pw, ws, _, rfl, rfl, h6w, small6 (by omega), ?_⟩
                  have t7 : TuS H6 (upd H6 pw (.lst (ws ++ [.ref fa]))) := TuS.lst h6w
                  have s7 : Same Hs (upd H6 pw (.lst (ws ++ [.ref fa]))) := same_upd s6 hpwS
                  have h7d : (upd H6 pw (.lst (ws ++ [.ref fa]))) pdn = some (.dT dk) := by rw [upd_ne (ne_of h6d h6w (fun z => nomatch z))]; exact h6d
                  have h7r : (upd H6 pw (.lst (ws ++ [.ref fa]))) pr = some (.lst rs) := by rw [upd_ne hrw]; exact h6r
                  have h7p : (upd H6 pw (.lst (ws ++ [.ref fa]))) pp = some (.lst us.dropLast) := by rw [upd_ne (Ne.symm hwp)]; exact h6p
                  have h7w : (upd H6 pw (.lst (ws ++ [.ref fa]))) pw = some (.lst (ws ++ [.ref fa])) := upd_same
                  generalize upd H6 pw (.lst (ws ++ [.ref fa])) = H7 at *
                  refine ⟨_, rfl, .inl ⟨rfl, _, SqL.of h7p⟩, _, rfl, by show 2 ≤ sizeLine; decide, fun T3 hT3 => ?_⟩
                  have s8 := same_new (o := .tup [.ref fa, .bl true]) hT3
                  have h8T : (upd H7 T3 (.tup [.ref fa, .bl true])) T3 = some (.tup [.ref fa, .bl true]) := upd_same
                  generalize upd H7 T3 (.tup [.ref fa, .bl true]) = H8 at *
                  have h8p := s8 _ _ h7p
                  refine ⟨pp, us.dropLast, _, rfl, rfl, h8p, small6 (by rw [lud]; omega), ?_⟩
                  have t9 : TuS H8 (upd H8 pp (.lst (us.dropLast ++ [.ref T3]))) := TuS.lst h8p
                  have s9 : Same Hs (upd H8 pp (.lst (us.dropLast ++ [.ref T3]))) := same_upd (s7.trans s8) hppS
                  have h9d : (upd H8 pp (.lst (us.dropLast ++ [.ref T3]))) pdn = some (.dT dk) := by rw [upd_ne (ne_of (s8 _ _ h7d) h8p (fun z => nomatch z))]; exact s8 _ _ h7d
                  have h9r : (upd H8 pp (.lst (us.dropLast ++ [.ref T3]))) pr = some (.lst rs) := by rw [upd_ne hrp]; exact s8 _ _ h7r
                  have h9w : (upd H8 pp (.lst (us.dropLast ++ [.ref T3]))) pw = some (.lst (ws ++ [.ref fa])) := by rw [upd_ne hwp]; exact s8 _ _ h7w
                  have h9p : (upd H8 pp (.lst (us.dropLast ++ [.ref T3]))) pp = some (.lst (us.dropLast ++ [.ref T3])) := upd_same
                  generalize upd H8 pp (.lst (us.dropLast ++ [.ref T3])) = H9 at *
                  have tA : TuS H6 H9 := (t7.trans (TuS.of s8)).trans t9
                  have sH9 : Same H H9 := s0.trans s9
                  obtain ⟨v1, hv1⟩ : ∃ v1, valV kv0 (fKey g) = some v1 := by
                    cases q : valV kv0 (fKey g) with
                    | none => exact absurd (hkk' ▸ fKey_mem.mpr hgV) (valV_not q)
                    | some v => exact ⟨v, rfl⟩
                  obtain ⟨sg, hsg, wlg, ep, hwlg⟩ := hkv _ (valV_memp hv1)
                  unfold grvW at hsg
                  obtain ⟨g', hg', rfl⟩ := List.mem_map.mp hsg
                  obtain ⟨e1, e2⟩ := Prod.mk.inj ep
                  have e1 := fKey_inj e1
                  subst e1 e2
                  refine ⟨_, rfl, .inl ⟨rfl, _, SqL.of h9p⟩, _, rfl, _, rfl, _, rfl, pd, .ref wlg, rfl, .inr ⟨kv0, fKey g, fa, .inl (s9 _ _ hsd), rfl, tA _ _ hfa6, hv1.symm⟩, a, wlg, G, W g, rfl, ⟨gvs, sH9 _ _ hgv, hG.mono sH9⟩, hwlg.mono sH9, fun w2 hw2 => ⟨S.wok g hgV w2 hw2, fun k hk => S.ok k (S.cl g hgV w2 hw2 k hk)⟩, S.wl g hgV, S.pl, fun H10 q10 s10 hq10 hBL => ⟨q10, rfl, ?_⟩⟩
                  obtain ⟨bvs, hbvs, hBI⟩ := hBL
                  have lb := hBI.length
                  rw [List.length_map] at lb
                  have hb288 := ben_len S hgV (ws := W g) fun w2 hw2 => hw2
                  refine ⟨⟨_, SqL.of hbvs⟩, fun D hD => ?_⟩
                  refine lc_list (K := K) (a := q10) (xs := bvs) (fun t Hx => Same H10 Hx ∧ ∃ xs, Hx D = some (.lst xs) ∧ IsL Hx xs ((((benF G (W g)).take t).map fun k => (k, false)).map eEnt)) ⟨same_new hD, [], upd_same, .nil⟩ (fun t Hx _ h => SqL.of (h.1 _ _ hbvs)) ?_ ?_
                  · rintro t x Hx ht ⟨sx, xs, hxs, hX⟩
                    obtain ⟨k, hk1, hk2⟩ := paired_get (pairedIs hBI) ht
                    obtain ⟨ka, ek, hka⟩ := isFct hk2
                    subst ek
                    have lx := hX.length
                    rw [List.length_map, List.length_map, List.length_take] at lx
                    refine ⟨rfl, ?_⟩
                    unfold tYes
                    refine iteT ⟨_, rfl, by show 2 ≤ sizeLine; decide, fun T4 hT4 => ?_⟩
                    have sT4 := same_new (o := .tup [.ref ka, .bl false]) hT4
                    have hT4D : T4 ≠ D := fun z => by subst z; rw [hxs] at hT4; cases hT4
                    refine ⟨xs, sT4 _ _ hxs, small6 (by omega), same_upd (sx.trans sT4) hD, _, upd_same, ?_⟩
                    rw [take_succ_of hk1, List.map_append, List.map_append]
                    have tX := (TuS.of sT4).trans (TuS.lst (u := .lst (xs ++ [.ref T4])) (sT4 _ _ hxs))
                    refine (hX.monoT tX).append (.cons (.tup (by rw [upd_ne hT4D]; exact upd_same) (.cons ((hk2.mono sx).monoT tX) (.cons (.bl _) .nil))) .nil)
                  · rintro Hx ⟨sx, xs, hxs, hX⟩
                    rw [lb, List.take_length] at hX
                    have lx := hX.length
                    rw [List.length_map, List.length_map] at lx
                    have s9x : Same H9 Hx := s10.trans sx
                    have hxp := s9x _ _ h9p
                    refine ⟨pp, D, _, xs, rfl, rfl, hxp, hxs, ?_, ?_⟩
                    · rw [List.length_append, lud, List.length_singleton, lx]
                      exact small6' (by omega)
                    have tZ : TuS Hx (upd Hx pp (.lst (us.dropLast ++ [.ref T3] ++ xs))) := TuS.lst hxp
                    have tB : TuS H6 (upd Hx pp (.lst (us.dropLast ++ [.ref T3] ++ xs))) := (tA.trans (TuS.of s9x)).trans tZ
                    have hks : ∀ k, k ∈ (benF G (W g)).reverse ↔ Kid G W g k := fun k => by rw [List.mem_reverse, mem_ben]; exact Iff.rfl
                    have hStN := hSt.down S hgR hgm hks
                    have emk := marks_down g (benF G (W g)).reverse st'
                    have hNl := hStN.len S
                    have hdec : smu R ((benF G (W g)).reverse.map (fun k => (k, false)) ++ (g, true) :: st') < smu R ((g, false) :: st') := by
                      unfold smu
                      rw [emk] at hNl ⊢
                      rw [marks_f]
                      simp only [List.length_append, List.length_cons, List.length_map, List.length_reverse] at hNl ⊢
                      omega
                    refine ⟨⟨R, (benF G (W g)).reverse.map (fun k => (k, false)) ++ (g, true) :: st', rs, ws ++ [.ref fa], us.dropLast ++ [.ref T3] ++ xs, dk, _, _, _, rfl, same_upd (s9.trans s9x) hppS, ?_, hRs.monoT (t06.trans tB), ?_, hdk, ?_, ?_, upd_same, ?_, hStN, hdone, ?_, by omega⟩, ?_⟩
                    · rw [upd_ne hrp]; exact s9x _ _ h9r
                    · rw [upd_ne (ne_of (s9x _ _ h9d) hxp (fun z => nomatch z))]; exact s9x _ _ h9d
                    · rw [upd_ne hwp]; exact s9x _ _ h9w
                    · rw [emk, List.reverse_cons, List.map_append]
                      exact (hWs'.monoT tB).append (.cons (hgI.monoT tB) .nil)
                    · have er : ((benF G (W g)).reverse.map (fun k => (k, false)) ++ (g, true) :: st').reverse = (st'.reverse ++ [(g, true)]) ++ (benF G (W g)).map fun k => (k, false) := by
                        rw [List.reverse_append, List.reverse_cons, ← List.map_reverse, List.reverse_reverse]
                      rw [er, List.map_append, List.map_append]
                      refine ((hUd.monoT (t6.trans tB)).append (.cons (.tup ?_ (.cons (hgI.monoT tB) (.cons (.bl _) .nil))) .nil)).append (hX.monoT tZ)
                      exact tZ _ _ (s9x _ _ (t9 _ _ h8T))
                    · rcases hf0 with h | h
                      · exact .inl h
                      · right
                        rw [List.map_append]
                        rcases List.mem_cons.mp h with h | h
                        · exact List.mem_append_right _ (List.mem_cons.mpr (.inl h))
                        · exact List.mem_append_right _ (List.mem_cons_of_mem _ h)
                    · refine Nat.lt_of_le_of_lt (Nat.le_of_eq (muS_eq (R := R) (st := (benF G (W g)).reverse.map (fun k => (k, false)) ++ (g, true) :: st') (rs := rs) (ws := ws ++ [.ref fa]) (us := us.dropLast ++ [.ref T3] ++ xs) ?_ ?_ upd_same lr ?_ ?_)) hdec
                      · rw [upd_ne hrp]; exact s9x _ _ h9r
                      · rw [upd_ne hwp]; exact s9x _ _ h9w
                      · rw [emk, List.length_append, lw]
                        rfl
                      · simp only [List.length_append, List.length_map, List.length_reverse, List.length_cons, List.length_nil, lud, lx]
                        omega
    · rintro σ Hc ⟨o5, o6, o7, o8, o9, o10, o11, R, rs, dk, rfl, sc, hcr, hRs, hcd, hdk, hSt, hdone⟩
      have ll : ps0.length = Vs.length := by
        have h1 := Paired.length hP0
        rw [List.length_map] at h1
        rw [h1]
        unfold grvW
        rw [List.length_map]
      rw [List.length_map, ll, List.take_length] at hdone
      refine ⟨_, rfl, by show 2 ≤ sizeLine; decide, fun q hq => ?_⟩
      exact kN _ q pr R ((s0.trans sc).trans (same_new hq)) ⟨(List.nodup_append.mp hSt.nd).1, fun g => ⟨hSt.rv g, hdone g⟩, hSt.ord⟩ upd_same ⟨rs, (same_new hq) _ _ hcr, hRs.mono (same_new hq)⟩
end
end Rg
namespace Rg
open PySem PySem.Spec L2
/-! ### trees in a row -/
def kidsL (T : Fct → List Nd) : List Str → List Nat → List (List Nd)
  | x :: ps, i :: j :: c => if isN x = true then (T (x, i, j)).flatMap fun t => (kidsL T ps (j :: c)).map fun ts => t :: ts else (kidsL T ps (j :: c)).map fun ts => .wd x :: ts
  | _, _ => [[]]
def wayTrees (G : Gr) (T : Fct → List Nd) (w : Way) : List Nd := match G[w.1]? with
  | some r => (kidsL T r.ps w.2).map (.nd w.1)
  | none => []
def TL (G : Gr) (W : Fct → List Way) : Nat → Fct → List Nd
  | 0 => fun _ => []
  | k + 1 => fun f => (W f).flatMap (wayTrees G (TL G W k))
def TT (G : Gr) (W : Fct → List Way) (f : Fct) : List Nd := TL G W 289 f
theorem partsF_nil (c : List Nat) : partsF [] c = [] := rfl
theorem kidsL_congr {T T' : Fct → List Nd} : ∀ {ps : List Str} {c : List Nat}, c.length = ps.length + 1 → (∀ g ∈ partsF ps c, T g = T' g) → kidsL T ps c = kidsL T' ps c
  | [], _, _, _ => by
    unfold kidsL
    rfl
  | x :: ps, [], h, _ => by simp at h
  | x :: ps, [i], h, _ => by simp at h
  | x :: ps, i :: j :: c, h, hg => by
    rw [partsF_cons] at hg
    have h1 := kidsL_congr (T := T) (T' := T') (ps := ps) (c := j :: c) (by simp at h ⊢; omega) fun g hg' => hg g (List.mem_append_right _ hg')
    unfold kidsL
    by_cases hx : isN x = true
    · rw [if_pos hx, if_pos hx, h1, hg (x, i, j) (List.mem_append_left _ (by rw [if_pos hx]; exact List.mem_singleton.mpr rfl))]
    · rw [if_neg hx, if_neg hx, h1]
theorem wayTrees_congr {G : Gr} {T T' : Fct → List Nd} {w : Way} (h : WOk G w) (hg : ∀ g ∈ partsW G w, T g = T' g) : wayTrees G T w = wayTrees G T' w := by
  obtain ⟨r, h1, h2⟩ := h
  unfold wayTrees
  unfold partsW at hg
  rw [h1] at hg ⊢
  show (kidsL T r.ps w.2).map _ = (kidsL T' r.ps w.2).map _
  rw [kidsL_congr h2 hg]
theorem flatMap_congrM {α β : Type} {f g : α → List β} : ∀ {l : List α}, (∀ x ∈ l, f x = g x) → l.flatMap f = l.flatMap g
  | [], _ => rfl
  | a :: l, h => by rw [List.flatMap_cons, List.flatMap_cons, h a List.mem_cons_self, flatMap_congrM fun x hx => h x (List.mem_cons_of_mem _ hx)]
theorem TL_stable {G : Gr} {Vs : List Fct} {W : Fct → List Way} (S : Grv G Vs W) {R : List Fct} (T : Topo G Vs W R) : ∀ k f, f ∈ Vs → R.idxOf f < k → TL G W (k + 1) f = TL G W k f
  | 0, f, _, h => absurd h (Nat.not_lt_zero _)
  | k + 1, f, hf, h => by
    show (W f).flatMap (wayTrees G (TL G W (k + 1))) = (W f).flatMap (wayTrees G (TL G W k))
    refine flatMap_congrM fun w hw => wayTrees_congr (S.wok f hf w hw) fun g hg => ?_
    have h1 := idx_lt T hf ⟨w, hw, hg⟩
    exact TL_stable S T k g (S.cl f hf w hw g hg) (by omega)
theorem Topo.len {G : Gr} {Vs : List Fct} {W : Fct → List Way} (S : Grv G Vs W) {R : List Fct} (T : Topo G Vs W R) : R.length ≤ 288 :=
  Nat.le_trans (nodup_len T.nd fun f hf => (T.mem f).mp hf) S.len
theorem TT_eq {G : Gr} {Vs : List Fct} {W : Fct → List Way} (S : Grv G Vs W) {R : List Fct} (T : Topo G Vs W R) {f : Fct} (hf : f ∈ Vs) : TT G W f = (W f).flatMap (wayTrees G (TT G W)) := by
  have h1 := List.idxOf_lt_length_of_mem ((T.mem f).mpr hf)
  have h2 := T.len S
  have := TL_stable S T 289 f hf (by omega)
  exact this.symm
/-- how many -/
def prodN (C : Fct → Nat) (l : List Fct) : Nat := l.foldl (fun m g => m * C g) 1
theorem prodN_acc (C : Fct → Nat) : ∀ (l : List Fct) (m : Nat), l.foldl (fun m g => m * C g) m = m * prodN C l
  | [], m => by unfold prodN; simp
  | g :: l, m => by
    unfold prodN
    rw [List.foldl_cons, List.foldl_cons, prodN_acc C l, prodN_acc C l (1 * C g), Nat.one_mul, Nat.mul_assoc]
theorem prodN_cons (C : Fct → Nat) (g : Fct) (l : List Fct) : prodN C (g :: l) = C g * prodN C l := by
  unfold prodN
  rw [List.foldl_cons, prodN_acc, Nat.one_mul]
  rfl
theorem flatMap_len_const {α β : Type} {f : α → List β} {m : Nat} : ∀ {l : List α}, (∀ x ∈ l, (f x).length = m) → (l.flatMap f).length = l.length * m
  | [], _ => by simp
  | a :: l, h => by
    rw [List.flatMap_cons, List.length_append, List.length_cons, Nat.succ_mul, h a List.mem_cons_self, flatMap_len_const fun x hx => h x (List.mem_cons_of_mem _ hx)]
    omega
theorem kidsL_len {T : Fct → List Nd} : ∀ {ps : List Str} {c : List Nat}, c.length = ps.length + 1 → (kidsL T ps c).length = prodN (fun g => (T g).length) (partsF ps c)
  | [], _, _ => by
    unfold kidsL
    rfl
  | x :: ps, [], h => by simp at h
  | x :: ps, [i], h => by simp at h
  | x :: ps, i :: j :: c, h => by
    have h1 := kidsL_len (T := T) (ps := ps) (c := j :: c) (by simp at h ⊢; omega)
    rw [partsF_cons]
    unfold kidsL
    by_cases hx : isN x = true
    · rw [if_pos hx, if_pos hx, List.singleton_append, prodN_cons, ← h1]
      exact flatMap_len_const fun t _ => by rw [List.length_map]
    · rw [if_neg hx, if_neg hx, List.nil_append, List.length_map, h1]
theorem wayTrees_len {G : Gr} {T : Fct → List Nd} {w : Way} (h : WOk G w) : (wayTrees G T w).length = prodN (fun g => (T g).length) (partsW G w) := by
  obtain ⟨r, h1, h2⟩ := h
  unfold wayTrees partsW
  rw [h1]
  show ((kidsL T r.ps w.2).map _).length = _
  rw [List.length_map, kidsL_len h2]
def cnt (G : Gr) (W : Fct → List Way) (f : Fct) : Nat := (TT G W f).length
theorem flatMap_len_sum {α β : Type} {f : α → List β} {g : α → Nat} : ∀ {l : List α}, (∀ x ∈ l, (f x).length = g x) → (l.flatMap f).length = (l.map g).sum
  | [], _ => rfl
  | a :: l, h => by rw [List.flatMap_cons, List.length_append, List.map_cons, List.sum_cons, h a List.mem_cons_self, flatMap_len_sum fun x hx => h x (List.mem_cons_of_mem _ hx)]
theorem cnt_eq {G : Gr} {Vs : List Fct} {W : Fct → List Way} (S : Grv G Vs W) {R : List Fct} (T : Topo G Vs W R) {f : Fct} (hf : f ∈ Vs) : cnt G W f = ((W f).map fun w => prodN (cnt G W) (partsW G w)).sum := by
  unfold cnt
  rw [TT_eq S T hf]
  exact flatMap_len_sum fun w hw => wayTrees_len (S.wok f hf w hw)
/-- counts at d -/
def CntD (H : Hp) (d : Addr) (Vs : List Fct) (C : Fct → Nat) : Prop := ∃ kvs : List (List Key × V), H d = some (.dT kvs) ∧ (∀ f ∈ Vs, valV kvs (fKey f) = some (.int (C f : Int))) ∧ ∀ f, f ∉ Vs → valV kvs (fKey f) = none
def big : Nat := 1000000
section
variable {P : Program} {w : World} {K : PySem.W.Frag} {mg : Str → Option Value} {base : Heap} {f : Addr} {fd : FuncData}
def sp_way_count : Sp := fun vs H Q _ => ∃ (a d wa : Addr) (G : Gr) (w : Way) (C : Fct → Nat) (kvs : List (List Key × V)), vs = [.ref a, .ref d, .ref wa] ∧ LD H a (G.map eRl) ∧ H d = some (.dT kvs) ∧ Is H (.ref wa) (eWay w) ∧ WOk G w ∧ (∀ r ∈ G, r.ps.length ≤ 4 ∧ ∀ p ∈ r.ps, p.length < 1000) ∧
  (∀ g ∈ partsW G w, valV kvs (fKey g) = some (.int (C g : Int)) ∧ C g < 2 ^ big) ∧ ∀ H', Same H H' → Q (.int (prodN C (partsW G w) : Int)) H'
theorem prod_bits {C : Fct → Nat} : ∀ {l : List Fct}, (∀ g ∈ l, C g < 2 ^ big) → prodN C l < 2 ^ (big * l.length + 1)
  | [], _ => by show 1 < 2 ^ (big * 0 + 1); decide
  | g :: l, h => by
    have h1 := prod_bits (l := l) fun x hx => h x (List.mem_cons_of_mem _ hx)
    have h2 := h g List.mem_cons_self
    rw [prodN_cons]
    have e : big * (g :: l).length + 1 = big + (big * l.length + 1) := by
      rw [List.length_cons, Nat.mul_add]
      omega
    rw [e, Nat.pow_add]
    exact Nat.mul_lt_mul'' h2 h1
theorem ok_way_count (F : Fun K "way_count" "way_count" st_way_count f fd) (Cp : Cal P w K mg base 2 "parts_of" ["grammar", "way"] sp_parts_of) : FnOk P w K mg base CX0 3 f fd ["grammar", "counts", "way"] sp_way_count := by
  refine F.ok sc_way_count (fun vs H Q E h => ?_) (fun cdv A outer s H vs Q E hr h => ?_)
  · obtain ⟨a, d, wa, G, w, C, kvs, rfl, _⟩ := h
    rfl
  · obtain ⟨a, d, wa, G, w, C, kvs, rfl, hG, hd, hw, hwo, hpl, hC, k⟩ := h
    have nd := sc_way_count.nd
    have hu := hu_of hr
    refine ⟨_, pss_cons (ps_set (i := 3) nd rfl (Or.inl rfl) pe_int)
      (pss_cons (ps_for PassesOwn.never rfl (pi_list (pe_cal Cp hr rfl (pa_cons (pv 0) (pa_cons (pv 2) pa_nil)))) (pg_name (i := 4) nd rfl (Or.inl rfl))
        (pss_one (ps_set (i := 3) nd rfl (Or.inl rfl) (pe_op op_mulX (pv 3) (pe_dget hu (pv 1) (pv 4) (fun _ _ => rfl))))))
      (pss_one (ps_ret (pv 3)))), ?_⟩
    refine ⟨_, rfl, _, rfl, a, wa, G, w, rfl, hG, hw, hwo, hpl, fun H1 p s1 hp hL => ?_⟩
    obtain ⟨us, hus, hU⟩ := hL
    have lu := hU.length
    rw [List.length_map] at lu
    have hp4 := partsW_len4 hpl w
    refine ⟨p, rfl, ⟨_, SqL.of hus⟩, for_list (K := K) (a := p) (xs := us) (fun i σ H2 => ∃ o4 : Option V, σ = [some (.ref a), some (.ref d), some (.ref wa), some (.int (prodN C ((partsW G w).take i) : Int)), o4] ∧ H2 = H1)
      ⟨none, rfl, rfl⟩ (fun i σ H2 _ ⟨_, _, e⟩ => e ▸ SqL.of hus) ?_ ?_⟩
    · rintro i y σ H2 hi ⟨o4, rfl, rfl⟩
      obtain ⟨g, hg, hg2⟩ := paired_get (pairedIs hU) hi
      obtain ⟨ga, eg, hga⟩ := isFct hg2
      subst eg
      have hgm := List.mem_of_getElem? hg
      obtain ⟨hv, hb⟩ := hC g hgm
      have hpb := prod_bits (C := C) (l := (partsW G w).take i) fun x hx => (hC x (List.mem_of_mem_take hx)).2
      have htl : ((partsW G w).take i).length ≤ 4 := by rw [List.length_take]; omega
      have hmx : CMulX (prodN C ((partsW G w).take i) : Int) (C g : Int) := mulx_ok (a := big * ((partsW G w).take i).length + 1) (b := big) hpb hb (by
        have : big * ((partsW G w).take i).length ≤ big * 4 := Nat.mul_le_mul_left _ htl
        show _ + big ≤ _
        have e4 : big * 4 = 4000000 := rfl
        have e1 : big = 1000000 := rfl
        omega)
      have et : prodN C ((partsW G w).take (i + 1)) = prodN C ((partsW G w).take i) * C g := by
        rw [take_succ_of hg]
        unfold prodN
        rw [List.foldl_append]
        rfl
      refine ⟨_, rfl, _, rfl, _, rfl, d, .int (C g : Int), rfl, ?_, ?_⟩
      · have := DGet.t (k := fKey g) (s1 _ _ hd) hga
        rw [hv] at this
        exact this
      · refine ⟨_, _, rfl, rfl, hmx, some (.ref ga), ?_, rfl⟩
        rw [et, Int.natCast_mul]
        rfl
    · rintro σ H2 ⟨o4, rfl, rfl⟩
      rw [lu, List.take_length]
      exact ⟨_, rfl, k H2 s1⟩
end
end Rg
namespace Rg
open PySem PySem.Spec L2
def kvC (L : List Fct) (C : Fct → Nat) : List (List Key × V) := L.map fun g => (fKey g, V.int (C g : Int))
theorem kvC_in {C : Fct → Nat} {g : Fct} : ∀ {L : List Fct}, g ∈ L → valV (kvC L C) (fKey g) = some (.int (C g : Int))
  | [], h => by cases h
  | x :: L, h => by
    unfold kvC
    rw [List.map_cons]
    by_cases e : x = g
    · subst e
      exact valV_pos rfl
    · rw [valV_neg fun z => e (fKey_inj z)]
      rcases List.mem_cons.mp h with h | h
      · exact absurd h.symm e
      · exact kvC_in h
theorem kvC_out {C : Fct → Nat} {g : Fct} : ∀ {L : List Fct}, g ∉ L → valV (kvC L C) (fKey g) = none
  | [], _ => rfl
  | x :: L, h => by
    unfold kvC
    rw [List.map_cons, valV_neg fun z => h (by rw [fKey_inj z]; exact List.mem_cons_self)]
    exact kvC_out fun z => h (List.mem_cons_of_mem _ z)
theorem sum_cast : ∀ l : List Nat, (l.map fun n : Nat => (n : Int)).sum = ((l.sum : Nat) : Int)
  | [] => rfl
  | a :: l => by rw [List.map_cons, List.sum_cons, sum_cast l, List.sum_cons, Int.natCast_add]
/-- the ways of a fact in a dict of a grove -/
theorem grv_get {H : Hp} {kv0 : List (List Key × V)} {Vs : List Fct} {W : Fct → List Way} (hkk : kv0.map (·.1) = Vs.map fKey) (hkv : ∀ q ∈ kv0, ∃ s ∈ grvW Vs W, ∃ wl, q = (fKey s.1, .ref wl) ∧ LD H wl (s.2.map eWay)) {g : Fct} (hg : g ∈ Vs) :
    ∃ wlg, valV kv0 (fKey g) = some (.ref wlg) ∧ LD H wlg ((W g).map eWay) := by
  obtain ⟨v1, hv1⟩ : ∃ v1, valV kv0 (fKey g) = some v1 := by
    cases q : valV kv0 (fKey g) with
    | none => exact absurd (hkk ▸ fKey_mem.mpr hg) (valV_not q)
    | some v => exact ⟨v, rfl⟩
  obtain ⟨sg, hsg, wlg, ep, hwlg⟩ := hkv _ (valV_memp hv1)
  unfold grvW at hsg
  obtain ⟨g', hg', rfl⟩ := List.mem_map.mp hsg
  obtain ⟨e1, e2⟩ := Prod.mk.inj ep
  have e1 := fKey_inj e1
  subst e1 e2
  exact ⟨wlg, hv1, hwlg⟩
theorem grvW_keys (Vs : List Fct) (W : Fct → List Way) : (grvW Vs W).map (fun s => fKey s.1) = Vs.map fKey := by
  unfold grvW
  rw [List.map_map]
  rfl
theorem keys_nd {Vs : List Fct} (h : Vs.Nodup) : (Vs.map fKey).Nodup := by
  rw [List.Nodup, List.pairwise_map]
  exact h.imp fun h e => h (fKey_inj e)
section
variable {P : Program} {w : World} {K : PySem.W.Frag} {mg : Str → Option Value} {base : Heap} {f : Addr} {fd : FuncData}
def sp_counts_of : Sp := fun vs H Q _ => ∃ (a p : Addr) (G : Gr) (Vs : List Fct) (W : Fct → List Way), vs = [.ref a, .ref p] ∧ LD H a (G.map eRl) ∧ GrvAt H p (grvW Vs W) ∧ Grv G Vs W ∧ (∀ R, Topo G Vs W R → ∀ f ∈ Vs, cnt G W f < 2 ^ big) ∧
  (∀ H', Same H H' → (∀ R, ¬ Topo G Vs W R) → Q .non H') ∧
  (∀ H' d R, Same H H' → Topo G Vs W R → CntD H' d Vs (cnt G W) → Q (.ref d) H')
theorem ok_counts_of (F : Fun K "counts_of" "counts_of" st_counts_of f fd) (B : Bl mg) (Cg : Cal P w K mg base 4 "gone_down" ["grammar", "some"] sp_gone_down) (Cw : Cal P w K mg base 3 "way_count" ["grammar", "counts", "way"] sp_way_count) :
    FnOk P w K mg base CX0 5 f fd ["grammar", "some"] sp_counts_of := by
  refine F.ok sc_counts_of (fun vs H Q E h => ?_) (fun cdv A outer s H vs Q E hr h => ?_)
  · obtain ⟨a, p, G, Vs, W, rfl, _⟩ := h
    rfl
  · obtain ⟨a, p, G, Vs, W, rfl, hG, hGrv, S, hbig, kN, kD⟩ := h
    have nd := sc_counts_of.nd
    have hu := hu_of hr
    refine ⟨_, pss_cons (ps_asg (pe_cal Cg hr rfl (pa_cons (pv 0) (pa_cons (pv 1) pa_nil))) (pg_tup rfl (pgs_cons (pg_name (i := 2) nd rfl (Or.inl rfl)) (pgs_cons (pg_name (i := 3) nd rfl (Or.inl rfl)) pgs_nil))))
      (pss_cons (ps_if (pt_cmp (pc_notN (pv 2))) (pss_one (ps_ret pe_non)) pss_nil)
      (pss_cons (ps_set (i := 4) nd rfl (Or.inl rfl) (pe_callTy (call_dictT rfl (Nat.lt_of_le_of_lt (Nat.add_le_add_left (by decide : 2 ≤ 64) _) hr.units)) rfl B.dict PyProof.Rows.boot_dict (pa_cons (pv 1) pa_nil)))
      (pss_cons (ps_set (i := 5) nd rfl (Or.inr rfl) pe_dnewT)
      (pss_cons (ps_for PassesOwn.never rfl (pi_list (pv 3)) (pg_name (i := 6) nd rfl (Or.inl rfl))
        (pss_one (ps_dput hu (pv 5) (pv 6) (pe_callB (cr_sum rfl) rfl B.sum PyProof.Rows.boot_sum (pa_cons (pe_lc (own := [("way", 7)]) (g := gName 7) (tt := tYes) rfl nd (pi_list (pe_dget hu (pv 4) (pv 6) (fun _ _ => rfl)))
          (blkOk_by (N := ["grammar", "some", "found", "ready", "ways", "counts", "fact", "way"]) (sc := defScope st_counts_of) (by decide +kernel))
          (fun _ _ _ _ _ => pg_name (i := 7) nd rfl (Or.inl rfl)) (fun _ _ _ _ _ => pts_nil)
          (fun _ _ _ _ _ => pe_cal Cw (hr.mono (by decide)) rfl (pa_cons (pv 0) (pa_cons (pv 5) (pa_cons (pv 7) pa_nil))))) pa_nil) (by decide) (by decide)) rfl)))
      (pss_one (ps_ret (pv 5))))))), ?_⟩
    refine ⟨_, rfl, _, rfl, a, p, G, Vs, W, rfl, hG, hGrv, S, fun H1 q l r s1 hno hq => ?_, fun H1 q r R s1 hT hq hR => ?_⟩
    · refine ⟨q, _, rfl, SqT.of hq, rfl, _, _, rfl, _, _, rfl, rfl, _, rfl, _, rfl, ?_⟩
      rw [decide_eq_false (fun z => nomatch z)]
      exact iteT (kN H1 s1 hno)
    · obtain ⟨gvs, hgv, hGI⟩ := hG
      refine ⟨q, _, rfl, SqT.of hq, rfl, _, _, rfl, _, _, rfl, rfl, _, rfl, _, rfl, ?_⟩
      rw [decide_eq_true rfl]
      refine iteF ?_
      obtain ⟨vs0, hv0, hP0⟩ := hGrv.mono s1
      obtain ⟨ps0, kv0, rfl, hPT, hkk, hkv⟩ := grvPT (K := K) hP0
      rw [grvW_keys] at hkk
      refine ⟨_, rfl, p, ps0, kv0, rfl, SqL.of hv0, hPT, by rw [hkk]; exact keys_nd S.nd, fun pd hpd => ?_⟩
      have s2 := same_new (o := .dT kv0) hpd
      have hd2 : (upd H1 pd (.dT kv0)) pd = some (.dT kv0) := upd_same
      generalize upd H1 pd (.dT kv0) = H2 at *
      intro pc hpc
      obtain ⟨rs, hrs, hRI⟩ := hR
      have s3 := same_new (o := .dT []) hpc
      have lr := hRI.length
      rw [List.length_map] at lr
      have hb := hbig R hT
      have hRl := hT.len S
      refine ⟨_, rfl, r, rfl, ⟨_, SqL.of (s3 _ _ (s2 _ _ hrs))⟩, for_list (K := K) (a := r) (xs := rs) (fun i σ Hc => ∃ (o6 o7 : Option V), σ = [some (.ref a), some (.ref p), some .non, some (.ref r), some (.ref pd), some (.ref pc), o6, o7] ∧ Same H2 Hc ∧ Hc pc = some (.dT (kvC (R.take i) (cnt G W))))
        ⟨none, none, rfl, s3, upd_same⟩ (fun i σ Hc _ ⟨_, _, _, s, _⟩ => SqL.of (s _ _ (s2 _ _ hrs))) ?_ ?_⟩
      · rintro i y σ Hc hi ⟨o6, o7, rfl, sc, hcc⟩
        obtain ⟨g, hg, hg2⟩ := paired_get (pairedIs hRI) hi
        obtain ⟨ga, eg, hga⟩ := isFct hg2
        subst eg
        have hgR := List.mem_of_getElem? hg
        have hgV : g ∈ Vs := (hT.mem g).mp hgR
        have s1c : Same H1 Hc := s2.trans sc
        obtain ⟨wlg, hwv, hwl⟩ := grv_get hkk hkv hgV
        obtain ⟨wvs, hwvs, hWI⟩ := hwl
        have lW := hWI.length
        rw [List.length_map] at lW
        have hwlen := S.wl g hgV
        have hgni : g ∉ R.take i := fun hm => by
          have hnd := hT.nd
          rw [← List.take_append_drop i R] at hnd
          have hdr : g ∈ R.drop i := by
            rw [List.drop_eq_getElem_cons (List.getElem?_eq_some_iff.mp hg).1, (List.getElem?_eq_some_iff.mp hg).2]
            exact List.mem_cons_self
          exact (List.nodup_append.mp hnd).2.2 g hm g hdr rfl
        have hkids : ∀ w2 ∈ W g, ∀ k ∈ partsW G w2, k ∈ R.take i := fun w2 hw2 k hk => by
          have e : R = R.take i ++ g :: R.drop (i + 1) := by
            have h1 := List.drop_eq_getElem_cons (List.getElem?_eq_some_iff.mp hg).1
            rw [(List.getElem?_eq_some_iff.mp hg).2] at h1
            rw [← h1, List.take_append_drop]
          exact hT.ord _ _ _ e k ⟨w2, hw2, hk⟩
        refine ⟨_, rfl, _, rfl, pd, .ref wlg, rfl, .inr ⟨kv0, fKey g, ga, .inl (sc _ _ hd2), rfl, s1c _ _ hga, hwv.symm⟩, wlg, rfl, ⟨_, SqL.of (s1c _ _ hwvs)⟩, fun D hD => ?_⟩
        refine lc_list (K := K) (a := wlg) (xs := wvs) (fun t Hx => Same Hc Hx ∧ Hx D = some (.lst (((W g).take t).map fun w2 => V.int (prodN (cnt G W) (partsW G w2) : Int)))) ⟨same_new hD, upd_same⟩ (fun t Hx _ h => SqL.of (h.1 _ _ (s1c _ _ hwvs))) ?_ ?_
        · rintro t x Hx ht ⟨sx, hxs⟩
          obtain ⟨w2, hw1, hw2⟩ := paired_get (pairedIs hWI) ht
          obtain ⟨wa, ca, ew, hwa, hca⟩ := isWay hw2
          subst ew
          have hwm := List.mem_of_getElem? hw1
          have s1x : Same H1 Hx := s1c.trans sx
          have hrx : ∀ k ∈ partsW G w2, valV (kvC (R.take i) (cnt G W)) (fKey k) = some (.int (cnt G W k : Int)) ∧ cnt G W k < 2 ^ big := fun k hk => ⟨kvC_in (hkids w2 hwm k hk), hb k (S.cl g hgV w2 hwm k hk)⟩
          refine ⟨rfl, ?_⟩
          unfold tYes
          refine iteT ⟨_, rfl, _, rfl, _, rfl, a, pc, wa, G, w2, cnt G W, _, rfl, ⟨gvs, (s1.trans s1x) _ _ hgv, hGI.mono (s1.trans s1x)⟩, sx _ _ hcc, hw2.mono s1x, S.wok g hgV w2 hwm, S.pl, hrx, fun Hy sy => ?_⟩
          refine ⟨_, sy _ _ hxs, ?_, same_upd (sx.trans sy) hD, ?_⟩
          · rw [List.length_map, List.length_take]
            exact small6 (by omega)
          · rw [upd_same, take_succ_of hw1, List.map_append]
            rfl
        · rintro Hx ⟨sx, hxs⟩
          rw [lW, List.take_length] at hxs
          have hcx := sx _ _ hcc
          have sx2 : Same H2 Hx := sc.trans sx
          refine ⟨D, (W g).map (fun w2 => (prodN (cnt G W) (partsW G w2) : Int)), rfl, SqL.of (by rw [List.map_map]; exact hxs), ?_⟩
          have esum : ((W g).map (fun w2 => (prodN (cnt G W) (partsW G w2) : Int))).sum = (cnt G W g : Int) := by
            rw [cnt_eq S hT hgV, ← sum_cast, List.map_map]
            rfl
          rw [esum]
          have lkv : (kvC (R.take i) (cnt G W)).length ≤ 288 := by
            unfold kvC
            rw [List.length_map, List.length_take]
            omega
          refine ⟨_, rfl, _, rfl, pc, _, rfl, DPut.t (k := fKey g) hcx (sx _ _ (s1c _ _ hga)) (small6 (by omega)), _, _, rfl, same_upd sx2 hpc, ?_⟩
          rw [putK_new _ (kvC_out hgni), upd_same, take_succ_of hg]
          unfold kvC
          rw [List.map_append]
          rfl
      · rintro σ Hc ⟨o6, o7, rfl, sc, hcc⟩
        rw [lr, List.take_length] at hcc
        refine ⟨_, rfl, kD Hc pc R ((s1.trans s2).trans sc) hT ⟨_, hcc, fun g hg => kvC_in ((hT.mem g).mpr hg), fun g hg => kvC_out fun z => hg ((hT.mem g).mp z)⟩⟩
end
end Rg
namespace Rg
open PySem PySem.Spec L2
def Wf (G : Gr) (row : List Str) (L : List Fct) : Fct → List Way := waysOf G row (EEs row L)
theorem GInv.closed {G : Gr} {row : List Str} {L V : List Fct} (I : GInv G row L (V, [])) : ∀ f ∈ V, ∀ w ∈ Wf G row L f, ∀ g ∈ partsW G w, g ∈ V := fun f hf w hw g hg => (I.cl f hf w hw g hg).elim id fun h => absurd h List.not_mem_nil
theorem IsGrove.inv {G : Gr} {row : List Str} {L V : List Fct} (hL : IsFound G row L) (h : IsGrove G row L V) : V = [] ∨ GInv G row L (V, []) := by
  rcases h with ⟨_, rfl⟩ | ⟨ht, k, hk⟩
  · exact .inl rfl
  · exact .inr (hk ▸ GInv.iter hL ht k)
theorem nd_sortF {V : List Fct} (h : V.Nodup) : (sortF V).Nodup := (List.mergeSort_perm V _).nodup_iff.mpr h
theorem grv_ok {G : Gr} {row : List Str} {L V : List Fct} (S : Sized G row) (hL : IsFound G row L) (h : IsGrove G row L V) : Grv G (sortF V) (Wf G row L) := by
  have pl : ∀ r ∈ G, r.ps.length ≤ 4 ∧ ∀ p ∈ r.ps, p.length < 1000 := fun r hr => ⟨S.pl r hr, (S.sh r hr).2⟩
  rcases h.inv hL with rfl | I
  · exact ⟨nd_sortF List.nodup_nil, by simp [sortF], fun f hf => absurd (mem_sortF.mp hf) List.not_mem_nil, fun f hf => absurd (mem_sortF.mp hf) List.not_mem_nil, fun f hf => absurd (mem_sortF.mp hf) List.not_mem_nil, pl, fun f hf => absurd (mem_sortF.mp hf) List.not_mem_nil⟩
  · refine ⟨nd_sortF I.nd, by unfold sortF; rw [List.length_mergeSort]; exact I.len S, fun f _ w hw => WOk.of hw, fun f hf w hw g hg => mem_sortF.mpr (I.closed f (mem_sortF.mp hf) w hw g hg), fun f _ => ways_len S L f, pl, fun f hf => (I.okV f (mem_sortF.mp hf)).strOk S⟩
/-- how many readings -/
def manyT (G : Gr) (row : List Str) (L V : List Fct) : Nat := if topF G row ∈ V then cnt G (Wf G row L) (topF G row) else 0
/-- the counts are of some size -/
def BigOk : Prop := ∀ (G : Gr) (row : List Str) (L V R : List Fct), Sized G row → IsFound G row L → IsGrove G row L V → Topo G (sortF V) (Wf G row L) R → ∀ f ∈ sortF V, cnt G (Wf G row L) f < 2 ^ big
theorem topF_eq {G : Gr} {row : List Str} {r0 : Rl} (h : G[0]? = some r0) : topF G row = (r0.nm, 0, row.length) := by
  cases hG0 : G with
  | nil => rw [hG0] at h; cases h
  | cons r1 G' => rw [hG0] at h; cases h; rfl
theorem CntD.get {H : Hp} {d T : Addr} {G : Gr} {row : List Str} {L V : List Fct} {r0 : Rl} (hr : G[0]? = some r0) (h : CntD H d (sortF V) (cnt G (Wf G row L))) (hT : H T = some (.tup [.str r0.nm, .int 0, .int (row.length : Int)])) :
    ∃ o, DGet H d (.ref T) o ∧ o.getD (.int 0) = .int (manyT G row L V : Int) := by
  obtain ⟨kvs, hd, h1, h2⟩ := h
  have hT' : H T = some (.tup ((fKey (topF G row)).map kV)) := by rw [topF_eq hr]; exact hT
  refine ⟨_, DGet.t (k := fKey (topF G row)) hd hT', ?_⟩
  unfold manyT
  by_cases ht : topF G row ∈ V
  · rw [h1 _ (mem_sortF.mpr ht), if_pos ht]
    rfl
  · rw [h2 _ (fun z => ht (mem_sortF.mp z)), if_neg ht]
    rfl
section
variable {P : Program} {w : World} {K : PySem.W.Frag} {mg : Str → Option Value} {base : Heap} {f : Addr} {fd : FuncData}
def sp_grove_count : Sp := fun vs H Q _ => ∃ (a ra : Addr) (G : Gr) (row : List Str), vs = [.ref a, .ref ra] ∧ LD H a (G.map eRl) ∧ WL H ra row ∧ Sized G row ∧
  (∀ H' L V, Same H H' → IsFound G row L → IsGrove G row L V → (∀ R, ¬ Topo G (sortF V) (Wf G row L) R) → Q .non H') ∧
  (∀ H' L V R, Same H H' → IsFound G row L → IsGrove G row L V → Topo G (sortF V) (Wf G row L) R → Q (.int (manyT G row L V : Int)) H')
theorem ok_grove_count (F : Fun K "grove_count" "grove_count" st_grove_count f fd) (B : Bl mg) (hbig : BigOk) (Cg : Cal P w K mg base 6 "grove" ["grammar", "row"] sp_grove) (Cc : Cal P w K mg base 5 "counts_of" ["grammar", "some"] sp_counts_of) :
    FnOk P w K mg base CX0 7 f fd ["grammar", "row"] sp_grove_count := by
  refine F.ok sc_grove_count (fun vs H Q E h => ?_) (fun cdv A outer s H vs Q E hr h => ?_)
  · obtain ⟨a, ra, G, row, rfl, _⟩ := h
    rfl
  · obtain ⟨a, ra, G, row, rfl, hG, hrow, S, kN, kD⟩ := h
    have nd := sc_grove_count.nd
    have hu := hu_of hr
    refine ⟨_, pss_cons (ps_set (i := 2) nd rfl (Or.inl rfl) (pe_cal Cc (hr.mono (by decide)) rfl (pa_cons (pv 0) (pa_cons (pe_cal Cg hr rfl (pa_cons (pv 0) (pa_cons (pv 1) pa_nil))) pa_nil))))
      (pss_cons (ps_if (pt_cmp (pc_isN (pv 2))) (pss_one (ps_ret pe_non)) pss_nil)
      (pss_one (ps_ret (pe_dget2 hu (pv 2) (pe_tup (pa_cons (pe_ix ix_tup (pe_ix ix_list (pv 0) pe_int (fun _ _ => rfl)) pe_int (fun _ _ => rfl)) (pa_cons pe_int (pa_cons (pe_len B rfl (pv 1)) pa_nil)))) pe_int ⟨rfl, rfl, rfl, rfl⟩)))), ?_⟩
    obtain ⟨r0, hr0⟩ : ∃ r0, G[0]? = some r0 := by
      cases hG0 : G with
      | nil => exact absurd hG0 S.g0
      | cons r0 G' => exact ⟨r0, rfl⟩
    refine ⟨_, rfl, _, rfl, _, rfl, a, ra, G, row, rfl, hG, hrow, S, fun H1 p L V s1 hp hL hV hS => ⟨a, p, G, sortF V, Wf G row L, rfl, hG.mono s1, hS, grv_ok S hL hV, fun R T => hbig G row L V R S hL hV T, fun H2 s2 hno => ?_, fun H2 d R s2 hTp hC => ?_⟩⟩
    · refine ⟨_, rfl, _, rfl, ?_⟩
      rw [decide_eq_true rfl]
      exact iteT (kN H2 L V (s1.trans s2) hL hV hno)
    · refine ⟨_, rfl, _, rfl, ?_⟩
      rw [decide_eq_false (fun z => nomatch z)]
      refine iteF ?_
      have s02 := s1.trans s2
      obtain ⟨gvs, hgv, hGI⟩ := hG
      obtain ⟨b0, pa0, hb1, hb0, hpa0⟩ := getRl' hGI hr0
      have hC' := hC
      obtain ⟨kvs, hd, _⟩ := hC'
      refine ⟨_, rfl, d, rfl, .inr ⟨kvs, .inl hd⟩, _, rfl, a, gvs, _, _, rfl, rfl, SqL.of (s02 _ _ hgv), atI_nat (j := 0) hb1, b0, _, 0, _, rfl, rfl, SqT.of (s02 _ _ hb0), atI_nat (j := 0) rfl, _, rfl, ra, _, rfl, .inl (SqL.of (s02 _ _ hrow)), by show 3 ≤ sizeLine; decide, fun T hT => ?_⟩
      rw [List.length_map]
      have s3 := same_new (o := .tup [.str r0.nm, .int 0, .int (row.length : Int)]) hT
      obtain ⟨kvs, hd, hc1, hc2⟩ := hC
      obtain ⟨o, hg, he⟩ := CntD.get (row := row) (L := L) (V := V) hr0 ⟨kvs, s3 _ _ hd, hc1, hc2⟩ upd_same
      refine ⟨o, hg, ?_⟩
      rw [he]
      exact kD _ L V R (s02.trans s3) hL hV hTp
end
end Rg
namespace Rg
open PySem PySem.Spec L2
def valD (C : Fct → Nat) : List Fct → List Nat → Nat
  | g :: gs, n :: ns => n * prodN C gs + valD C gs ns
  | _, _ => 0
def DigOk (C : Fct → Nat) : List Fct → List Nat → Prop
  | [], [] => True
  | g :: gs, n :: ns => n < C g ∧ DigOk C gs ns
  | _, _ => False
theorem prodN_append (C : Fct → Nat) (l m : List Fct) : prodN C (l ++ m) = prodN C l * prodN C m := by
  unfold prodN
  rw [List.foldl_append, prodN_acc]
  rfl
theorem DigOk.len {C : Fct → Nat} : ∀ {gs : List Fct} {ns : List Nat}, DigOk C gs ns → ns.length = gs.length
  | [], [], _ => rfl
  | g :: gs, n :: ns, h => by rw [List.length_cons, List.length_cons, DigOk.len h.2]
  | [], _ :: _, h => h.elim
  | _ :: _, [], h => h.elim
theorem sum_take_le (g : Way → Nat) (l : List Way) (i : Nat) : ((l.take i).map g).sum ≤ (l.map g).sum := by
  have h : (l.map g).sum = ((l.take i).map g).sum + ((l.drop i).map g).sum := by rw [← List.sum_append, ← List.map_append, List.take_append_drop]
  omega
theorem dep100 {k : Nat} {A : Around} (r : Room k A) (h : 35 ≤ k) : A.depth + Builtin.pylongFrames < recursionLimit := by
  have := r.dp
  show A.depth + 100 < _
  omega
section
variable {P : Program} {w : World} {K : PySem.W.Frag} {mg : Str → Option Value} {base : Heap} {f : Addr} {fd : FuncData}
def sp_way_numbered : Sp := fun vs H Q _ => ∃ (a d wl : Addr) (G : Gr) (ws : List Way) (n : Nat) (C : Fct → Nat) (kvs : List (List Key × V)), vs = [.ref a, .ref d, .ref wl, .int (n : Int)] ∧ LD H a (G.map eRl) ∧ H d = some (.dT kvs) ∧ LD H wl (ws.map eWay) ∧
  (∀ w ∈ ws, WOk G w ∧ ∀ g ∈ partsW G w, valV kvs (fKey g) = some (.int (C g : Int)) ∧ C g < 2 ^ big) ∧ (∀ r ∈ G, r.ps.length ≤ 4 ∧ ∀ p ∈ r.ps, p.length < 1000) ∧ n < (ws.map fun w => prodN C (partsW G w)).sum ∧
  ∀ H' q wa nl A w B ns, Same H H' → H' q = some (.tup [.ref wa, .ref nl]) → Is H' (.ref wa) (eWay w) → NL H' nl ns → ws = A ++ w :: B → n = (A.map fun w => prodN C (partsW G w)).sum + valD C (partsW G w) ns → DigOk C (partsW G w) ns → Q (.ref q) H'
theorem ok_way_numbered (F : Fun K "way_numbered" "way_numbered" st_way_numbered f fd) (B : Bl mg) (hN : base.NoSeer) (ht : P.given.tree = none) (Cw : Cal P w K mg base 3 "way_count" ["grammar", "counts", "way"] sp_way_count) (Cp : Cal P w K mg base 2 "parts_of" ["grammar", "way"] sp_parts_of) :
    FnOk P w K mg base CX0 36 f fd ["grammar", "counts", "ways", "number"] sp_way_numbered := by
  refine F.ok sc_way_numbered (fun vs H Q E h => ?_) (fun cdv A outer s H vs Q E hr h => ?_)
  · obtain ⟨a, d, wl, G, ws, n, C, kvs, rfl, _⟩ := h
    rfl
  · obtain ⟨a, d, wl, G, ws, n, C, kvs, rfl, hG, hd, ⟨wvs, hwv, hW⟩, hws, hpl, hn, k⟩ := h
    have nd := sc_way_numbered.nd
    have hu := hu_of hr
    refine ⟨_, pss_cons (ps_for PassesOwn.never rfl (pi_list (pv 2)) (pg_name (i := 4) nd rfl (Or.inl rfl))
        (pss_cons (ps_set (i := 5) nd rfl (Or.inl rfl) (pe_cal Cw (hr.mono (by decide)) rfl (pa_cons (pv 0) (pa_cons (pv 1) (pa_cons (pv 4) pa_nil)))))
        (pss_cons (ps_if (pt_cmpR op_lt (pv 3) (pv 5) (nomark _))
          (pss_cons (ps_set (i := 6) nd rfl (Or.inl rfl) (pe_lst pa_nil))
          (pss_cons (ps_for PassesOwn.never rfl (_root_.RT.pi_revA rfl B.reversed (pe_cal Cp (hr.mono (by decide)) rfl (pa_cons (pv 0) (pa_cons (pv 4) pa_nil)))) (pg_name (i := 7) nd rfl (Or.inl rfl))
            (pss_cons (ps_asg (pe_callB (call_divP hN ht rfl rfl rfl (dep100 hr (by decide))) rfl B.divmod PyProof.Rows.boot_divmod (pa_cons (pv 3) (pa_cons (pe_dget hu (pv 1) (pv 7) (fun _ _ => rfl)) pa_nil)) (by decide) (by decide)) (pg_tup rfl (pgs_cons (pg_name (i := 3) nd rfl (Or.inl rfl)) (pgs_cons (pg_name (i := 8) nd rfl (Or.inl rfl)) pgs_nil))))
            (pss_one (ps_expr (pe_bm PySem.F.plainAttrs_list PySem.F.slot_list_insert PySem.F.type_list_insert mt_insert (pv 6) (pa_cons pe_int (pa_cons (pv 8) pa_nil)))))))
          (pss_one (ps_ret (pe_tup (pa_cons (pv 4) (pa_cons (pv 6) pa_nil)))))))
          pss_nil)
        (pss_one (ps_aug (i := 3) nd rfl (Or.inl rfl) (pv 5) ip_sub)))))
      (pss_one (ps_ret pe_non)), ?_⟩
    have lW := hW.length
    rw [List.length_map] at lW
    refine ⟨_, rfl, wl, rfl, ⟨_, SqL.of hwv⟩, for_list (K := K) (a := wl) (xs := wvs) (fun i σ Hc => ∃ (m : Nat) (o4 o5 : Option V), σ = [some (.ref a), some (.ref d), some (.ref wl), some (.int (m : Int)), o4, o5, none, none, none] ∧ Same H Hc ∧ n = ((ws.take i).map fun w => prodN C (partsW G w)).sum + m)
      ⟨n, none, none, rfl, Same.refl H, by simp⟩ (fun i σ Hc _ ⟨_, _, _, _, s, _⟩ => SqL.of (s _ _ hwv)) ?_ ?_⟩
    · rintro i y σ Hc hi ⟨m, o4, o5, rfl, sc, hm⟩
      obtain ⟨w', hw1, hw2⟩ := paired_get (pairedIs hW) hi
      obtain ⟨wa, ca, ew, hwa, hca⟩ := isWay hw2
      subst ew
      have hwm := List.mem_of_getElem? hw1
      obtain ⟨hwo, hgs⟩ := hws w' hwm
      refine ⟨_, rfl, _, rfl, _, rfl, a, d, wa, G, w', C, kvs, rfl, hG.mono sc, sc _ _ hd, hw2.mono sc, hwo, hpl, hgs, fun H1 s1 => ?_⟩
      have s01 := sc.trans s1
      refine ⟨_, rfl, _, rfl, _, _, rfl, rfl, _, rfl, ?_⟩
      by_cases hlt : m < prodN C (partsW G w')
      · rw [decide_eq_true (show (m : Int) < (prodN C (partsW G w') : Int) by omega)]
        refine iteT ⟨by decide, fun nl hnl => ?_⟩
        have s2 := same_new (o := .lst []) hnl
        have hnl2 : (upd H1 nl (.lst [])) nl = some (.lst []) := upd_same
        generalize upd H1 nl (.lst []) = H2 at *
        have s02 := s01.trans s2
        have hnlH : H nl = none := s01.free hnl
        refine ⟨_, rfl, _, rfl, a, wa, G, w', rfl, hG.mono s02, hw2.mono s02, hwo, hpl, fun H3 p s3 hp hL => ?_⟩
        obtain ⟨us, hus, hU⟩ := hL
        have lu := hU.length
        rw [List.length_map] at lu
        have hp4 := partsW_len4 hpl w'
        have hpn : p ≠ nl := fun z => by subst z; rw [hnl2] at hp; cases hp
        have h3n := s3 _ _ hnl2
        have hpb : but H3 nl p = some (.lst us) := by rw [but_ne hpn]; exact hus
        have tb : TuS H3 (but H3 nl) := fun b xs e => but_of e h3n (fun z => nomatch z)
        have hUb := hU.monoT tb
        have sHb : Same H (but H3 nl) := same_but (s02.trans s3) hnlH
        generalize hPP : partsW G w' = PP at *
        refine ⟨p, us, rfl, .inl ⟨SqL.of hus, for_it walk_rev (fun j σ Hx => ∃ (q : Nat) (ns : List Nat) (o7 o8 : Option V), σ = [some (.ref a), some (.ref d), some (.ref wl), some (.int (q : Int)), some (.ref wa), some (.int (prodN C PP : Int)), some (.ref nl), o7, o8] ∧ Same (but H3 nl) Hx ∧ NL Hx nl ns ∧
            DigOk C (PP.drop (PP.length - j)) ns ∧ m = q * prodN C (PP.drop (PP.length - j)) + valD C (PP.drop (PP.length - j)) ns ∧ q < prodN C (PP.take (PP.length - j)))
          ⟨m, [], none, none, rfl, but_same, h3n, by simp [DigOk], by simp [valD, prodN], by simpa using hlt⟩ (fun j σ Hx _ ⟨_, _, _, _, _, s, _⟩ => SqL.of (s _ _ hpb)) ?_ ?_⟩⟩
        · rintro j y σ Hx Hx' hj ⟨q, ns, o7, o8, rfl, sx, hns, hdig, hmq, hq⟩ ⟨rfl, hy⟩
          rw [lu] at hj hy
          obtain ⟨g, hg, hg2⟩ := paired_get (pairedIs hUb) hy
          obtain ⟨ga, eg, hga⟩ := isFct hg2
          subst eg
          obtain ⟨hgv, hgb⟩ := hgs g (List.mem_of_getElem? hg)
          have ej : PP.length - j = (PP.length - 1 - j) + 1 := by omega
          have ej2 : PP.length - (j + 1) = PP.length - 1 - j := by omega
          have hdr : PP.drop (PP.length - 1 - j) = g :: PP.drop (PP.length - j) := by
            rw [ej, List.drop_eq_getElem_cons (List.getElem?_eq_some_iff.mp hg).1, (List.getElem?_eq_some_iff.mp hg).2]
          have htk : PP.take (PP.length - j) = PP.take (PP.length - 1 - j) ++ [g] := by rw [ej, take_succ_of hg]
          have hq2 : q < prodN C (PP.take (PP.length - 1 - j)) * C g := by
            rw [htk, prodN_append] at hq
            have : prodN C [g] = C g := by rw [prodN_cons]; show C g * 1 = _; omega
            rwa [this] at hq
          have hCg : 0 < C g := by
            rcases Nat.eq_zero_or_pos (C g) with z | z
            · rw [z, Nat.mul_zero] at hq2; omega
            · exact z
          have s1x : Same H Hx' := sHb.trans sx
          have hdx := s1x _ _ hd
          refine ⟨_, rfl, _, rfl, _, rfl, d, .int (C g : Int), rfl, ?_, (q : Int), (C g : Int), rfl, by omega, fun T hT => ?_⟩
          · have := DGet.t (k := fKey g) hdx (sx _ _ hga)
            rw [hgv] at this
            exact this
          · have sT := same_new (o := .tup [.int ((q : Int) / (C g : Int)), .int ((q : Int) % (C g : Int))]) hT
            have hTT : (upd Hx' T (.tup [.int ((q : Int) / (C g : Int)), .int ((q : Int) % (C g : Int))])) T = some (.tup [.int ((q / C g : Nat) : Int), .int ((q % C g : Nat) : Int)]) := by
              rw [upd_same, Int.natCast_ediv, Int.natCast_emod]
            generalize upd Hx' T (.tup [.int ((q : Int) / (C g : Int)), .int ((q : Int) % (C g : Int))]) = HT at *
            have hnT : HT nl = some (.lst (ns.map vN)) := sT _ _ hns
            have lns := hdig.len
            refine ⟨T, _, rfl, SqT.of hTT, rfl, _, _, rfl, _, _, rfl, rfl, _, rfl, .inl ⟨rfl, _, SqL.of hnT⟩, _, rfl, nl, _, 0, _, rfl, rfl, hnT, ?_, by decide, by decide, ?_⟩
            · rw [List.length_map, lns, List.length_drop]
              exact small6 (by omega)
            · refine ⟨q / C g, (q % C g) :: ns, _, _, rfl, same_upd (sx.trans sT) but_none, ?_, ?_, ?_, ?_⟩
              · unfold NL
                rw [upd_same]
                rfl
              · rw [ej2, hdr]
                exact ⟨Nat.mod_lt _ hCg, hdig⟩
              · rw [ej2, hdr, prodN_cons]
                show m = q / C g * (C g * prodN C (PP.drop (PP.length - j))) + (q % C g * prodN C (PP.drop (PP.length - j)) + valD C (PP.drop (PP.length - j)) ns)
                rw [hmq, ← Nat.add_assoc, ← Nat.mul_assoc, ← Nat.add_mul]
                congr 2
                have := Nat.div_add_mod q (C g)
                rw [Nat.mul_comm] at this
                exact this.symm
              · rw [ej2]
                exact (Nat.div_lt_iff_lt_mul hCg).mpr hq2
        · rintro σ Hx ⟨q, ns, o7, o8, rfl, sx, hns, hdig, hmq, hq⟩
          rw [lu, Nat.sub_self, List.drop_zero] at hdig hmq
          rw [lu, Nat.sub_self, List.take_zero] at hq
          have hq0 : q = 0 := by
            have : prodN C [] = 1 := rfl
            omega
          rw [hq0, Nat.zero_mul, Nat.zero_add] at hmq
          refine ⟨_, rfl, _, rfl, by show 2 ≤ sizeLine; decide, fun r hr' => ?_⟩
          have sr := same_new (o := .tup [.ref wa, .ref nl]) hr'
          have ews : ws = ws.take i ++ w' :: ws.drop (i + 1) := by
            have h1 := List.drop_eq_getElem_cons (List.getElem?_eq_some_iff.mp hw1).1
            rw [(List.getElem?_eq_some_iff.mp hw1).2] at h1
            rw [← h1, List.take_append_drop]
          refine k _ r wa nl (ws.take i) w' (ws.drop (i + 1)) ns ((sHb.trans sx).trans sr) upd_same (hw2.mono ((sHb.trans sx).trans sr)) (sr _ _ hns) ews ?_ ?_
          · rw [hPP, ← hmq]
            exact hm
          · rw [hPP]
            exact hdig
      · rw [decide_eq_false (show ¬ (m : Int) < (prodN C (partsW G w') : Int) by omega)]
        refine iteF ⟨_, rfl, _, rfl, _, _, rfl, rfl, m - prodN C (partsW G w'), some (.ref wa), some (.int (prodN C (partsW G w') : Int)), ?_, s01, ?_⟩
        · rw [Int.natCast_sub (by omega)]
          rfl
        · rw [take_succ_of hw1, List.map_append, List.sum_append, hm]
          simp only [List.map_cons, List.map_nil, List.sum_cons, List.sum_nil]
          omega
    · rintro σ Hc ⟨m, o4, o5, rfl, sc, hm⟩
      rw [lW, List.take_length] at hm
      omega
end
end Rg
namespace Rg
open PySem PySem.Spec L2
/-- what is to be made -/
inductive Tk
  | fct (g : Fct) (n : Nat)
  | wrd (s : Str)
  | mk (num len : Nat)
def eTk : Tk → PyData
  | .fct g n => .tuple [eFct g, .int (n : Int)]
  | .wrd s => .tuple [.str s, .none]
  | .mk a b => .tuple [.int (a : Int), .int (b : Int)]
def tStep (a : List Tk × List (Fct × Nat)) (x : Str) : List Tk × List (Fct × Nat) := if isN x = true then (match a.2 with
  | z :: Z => (a.1 ++ [.fct z.1 z.2], Z)
  | [] => a) else (a.1 ++ [.wrd x], a.2)
def tFold (ps : List Str) (Z : List (Fct × Nat)) : List Tk × List (Fct × Nat) := ps.foldl tStep ([], Z)
def tasksW (G : Gr) (w : Way) (ns : List Nat) : List Tk := match G[w.1]? with
  | some r => (tFold r.ps ((partsF r.ps w.2).zip ns)).1 ++ [.mk w.1 r.ps.length]
  | none => []
def eFn (z : Fct × Nat) : PyData := .tuple [eFct z.1, .int (z.2 : Int)]
theorem tFold_len : ∀ (ps : List Str) (a : List Tk × List (Fct × Nat)), (ps.foldl tStep a).1.length ≤ a.1.length + ps.length
  | [], a => Nat.le_refl _
  | x :: ps, a => by
    have h1 := tFold_len ps (tStep a x)
    have h2 : (tStep a x).1.length ≤ a.1.length + 1 := by
      unfold tStep
      split
      · split
        · simp
        · omega
      · simp
    rw [List.foldl_cons, List.length_cons]
    omega
/-- the names among parts -/
def nms (ps : List Str) : Nat := (ps.filter isN).length
theorem nms_cons (x : Str) (ps : List Str) : nms (x :: ps) = (if isN x = true then 1 else 0) + nms ps := by
  unfold nms
  by_cases h : isN x = true
  · rw [List.filter_cons_of_pos h, if_pos h, List.length_cons]; omega
  · rw [List.filter_cons_of_neg h, if_neg h]; omega
theorem partsF_len : ∀ {ps : List Str} {c : List Nat}, c.length = ps.length + 1 → (partsF ps c).length = nms ps
  | [], _, _ => rfl
  | x :: ps, [], h => by simp at h
  | x :: ps, [i], h => by simp at h
  | x :: ps, i :: j :: c, h => by
    rw [partsF_cons, List.length_append, partsF_len (by simp at h ⊢; omega), nms_cons]
    split <;> rfl
theorem tFold_rest : ∀ (ps : List Str) (a : List Tk × List (Fct × Nat)), nms ps ≤ a.2.length → (ps.foldl tStep a).2 = a.2.drop (nms ps)
  | [], a, _ => rfl
  | x :: ps, a, h => by
    rw [nms_cons] at h ⊢
    rw [List.foldl_cons]
    by_cases hx : isN x = true
    · rw [if_pos hx] at h ⊢
      unfold tStep
      rw [if_pos hx]
      obtain ⟨acc, Z⟩ := a
      cases Z with
      | nil => simp at h
      | cons z Z =>
        have h' : nms ps ≤ Z.length := by simp at h; omega
        show (ps.foldl tStep (acc ++ [.fct z.1 z.2], Z)).2 = (z :: Z).drop (1 + nms ps)
        rw [tFold_rest ps _ h', Nat.add_comm]
        rfl
    · rw [if_neg hx] at h ⊢
      have h0 : tStep a x = (a.1 ++ [.wrd x], a.2) := by unfold tStep; rw [if_neg hx]
      rw [h0, tFold_rest ps _ (by simpa using h), Nat.zero_add]
section
variable {P : Program} {w : World} {K : PySem.W.Frag} {mg : Str → Option Value} {base : Heap} {f : Addr} {fd : FuncData}
def sp_tasks_of : Sp := fun vs H Q _ => ∃ (a wa nl : Addr) (G : Gr) (w : Way) (ns : List Nat), vs = [.ref a, .ref wa, .ref nl] ∧ LD H a (G.map eRl) ∧ Is H (.ref wa) (eWay w) ∧ WOk G w ∧ NL H nl ns ∧ ns.length = (partsW G w).length ∧ (∀ r ∈ G, r.ps.length ≤ 4 ∧ ∀ p ∈ r.ps, p.length < 1000) ∧
  ∀ H' q, Same H H' → H q = none → LD H' q ((tasksW G w ns).map eTk) → Q (.ref q) H'
theorem ok_tasks_of (F : Fun K "tasks_of" "tasks_of" st_tasks_of f fd) (B : Bl mg) (Cp : Cal P w K mg base 2 "parts_of" ["grammar", "way"] sp_parts_of) (Ci : Cal P w K mg base 1 "is_name" ["part"] sp_is_name) :
    FnOk P w K mg base CX0 3 f fd ["grammar", "way", "numbers"] sp_tasks_of := by
  refine F.ok sc_tasks_of (fun vs H Q E h => ?_) (fun cdv A outer s H vs Q E hr h => ?_)
  · obtain ⟨a, wa, nl, G, w, ns, rfl, _⟩ := h
    rfl
  · obtain ⟨a, wa, nl, G, w, ns, rfl, ⟨gvs, hgv, hG⟩, hw, ⟨r, hr1, hlen⟩, hns, hnl, hpl, k⟩ := h
    have nd := sc_tasks_of.nd
    have hu := hu_of hr
    refine ⟨_, pss_cons (ps_setLc (i := 3) (own := [("fact", 6), ("number", 7)]) (g := gTup K 2 (gCons (gName 6) (gCons (gName 7) gNil))) (tt := tYes) rfl nd rfl rfl rfl (_root_.RZ.pi_zipA rfl B.zip (pa_cons (pe_cal Cp hr rfl (pa_cons (pv 0) (pa_cons (pv 1) pa_nil))) (pa_cons (pv 2) pa_nil)))
          (blkOk_by (N := ["grammar", "way", "numbers", "left", "found", "part", "fact", "number"]) (sc := defScope st_tasks_of) (by decide +kernel))
          (fun _ _ _ _ _ => pg_tup rfl (pgs_cons (pg_name (i := 6) nd rfl (Or.inl rfl)) (pgs_cons (pg_name (i := 7) nd rfl (Or.inl rfl)) pgs_nil))) (fun _ _ _ _ _ => pts_nil)
          (fun _ _ _ _ _ => pe_tup (pa_cons (pv 6) (pa_cons (pv 7) pa_nil))))
      (pss_cons (ps_set (i := 4) nd rfl (Or.inl rfl) (pe_lst pa_nil))
      (pss_cons (ps_for PassesOwn.never rfl (pi_tup (pe_ix ix_tup (pe_ix ix_list (pv 0) (pe_ix ix_tup (pv 1) pe_int (fun _ _ => rfl)) (fun _ _ => rfl)) pe_int (fun _ _ => rfl))) (pg_name (i := 5) nd rfl (Or.inl rfl))
        (pss_one (ps_expr (pe_app (pv 4) (pe_ifExp (pt_val (pe_cal Ci (hr.mono (by decide)) rfl (pa_cons (pv 5) pa_nil))) (pe_popAt (pv 3) pe_int) (pe_tup (pa_cons (pv 5) (pa_cons pe_non pa_nil))))))))
      (pss_cons (ps_expr (pe_app (pv 4) (pe_tup (pa_cons (pe_ix ix_tup (pv 1) pe_int (fun _ _ => rfl)) (pa_cons (pe_len B rfl (pe_ix ix_tup (pe_ix ix_list (pv 0) (pe_ix ix_tup (pv 1) pe_int (fun _ _ => rfl)) (fun _ _ => rfl)) pe_int (fun _ _ => rfl))) pa_nil)))))
      (pss_one (ps_ret (pv 4)))))), ?_⟩
    obtain ⟨wa', ca, e, hwa, hca⟩ := isWay hw
    cases e
    obtain ⟨b, pa, hb1, hb, hpa⟩ := getRl' hG hr1
    have hrG : r ∈ G := List.mem_of_getElem? hr1
    have hp4 := (hpl r hrG).1
    have epw : partsW G w = partsF r.ps w.2 := by unfold partsW; rw [hr1]
    rw [epw] at hnl
    have etw : tasksW G w ns = (tFold r.ps ((partsF r.ps w.2).zip ns)).1 ++ [.mk w.1 r.ps.length] := by unfold tasksW; rw [hr1]
    rw [etw] at k
    refine ⟨_, rfl, _, rfl, a, wa, G, w, rfl, ⟨gvs, hgv, hG⟩, hw, ⟨r, hr1, hlen⟩, hpl, fun H1 p s1 hp hL => ?_⟩
    rw [epw] at hL
    obtain ⟨us, hus, hU⟩ := hL
    have lu := hU.length
    rw [List.length_map] at lu
    have lpf := partsF_len hlen
    have hnm4 : nms r.ps ≤ 4 := Nat.le_trans (List.length_filter_le _ _) hp4
    have hns1 : H1 nl = some (.lst (ns.map vN)) := s1 _ _ hns
    refine ⟨_, rfl, p, nl, us, ns.map vN, rfl, .inl ⟨SqL.of hus, SqL.of hns1, fun D hD => ?_⟩⟩
    have hDH : H D = none := s1.free hD
    have lz : ((partsF r.ps w.2).zip ns).length = us.length := by rw [List.length_zip, hnl, lu]; omega
    refine lc_it (walk_zip (n := us.length) (by rw [List.length_map, hnl, lu]; omega)) (fun t Hx => Same H1 Hx ∧ ∃ xs, Hx D = some (.lst xs) ∧ IsL Hx xs ((((partsF r.ps w.2).zip ns).take t).map eFn)) ⟨same_new hD, [], upd_same, .nil⟩ (fun t Hx _ h => ⟨SqL.of (h.1 _ _ hus), SqL.of (h.1 _ _ hns1)⟩) ?_ ?_
    · rintro t v Hx Hx' htl ⟨sx, xs, hxs, hX⟩ ⟨T, x1, y1, rfl, hT, rfl, e1, e2⟩
      obtain ⟨g, hg, hg2⟩ := paired_get (pairedIs hU) (show us[t]? = some x1 from e1)
      obtain ⟨ga, eg, hga⟩ := isFct hg2
      subst eg
      replace e2 : (ns.map vN)[t]? = some y1 := e2
      rw [List.getElem?_map] at e2
      cases en : ns[t]? with
      | none => rw [en] at e2; cases e2
      | some m =>
        rw [en] at e2
        have ey : y1 = vN m := (Option.some.inj e2).symm
        subst ey
        have ez : ((partsF r.ps w.2).zip ns)[t]? = some (g, m) := by rw [List.getElem?_zip_eq_some]; exact ⟨hg, en⟩
        have sT := same_new (o := .tup [.ref ga, vN m]) hT
        have hTT : (upd Hx T (.tup [.ref ga, vN m])) T = some (.tup [.ref ga, vN m]) := upd_same
        generalize upd Hx T (.tup [.ref ga, vN m]) = HT at *
        refine ⟨T, _, rfl, SqT.of hTT, rfl, _, _, rfl, _, _, rfl, rfl, rfl, ?_⟩
        unfold tYes
        refine iteT ⟨_, rfl, _, rfl, by show 2 ≤ sizeLine; decide, fun T2 hT2 => ?_⟩
        have sT2 := same_new (o := .tup [.ref ga, vN m]) hT2
        have hxT := sT _ _ hxs
        have hT2D : T2 ≠ D := fun z => by subst z; rw [hxT] at hT2; cases hT2
        have lx := hX.length
        rw [List.length_map, List.length_take] at lx
        refine ⟨xs, sT2 _ _ hxT, small6 (by omega), same_upd ((sx.trans sT).trans sT2) hD, _, upd_same, ?_⟩
        have tX : TuS Hx (upd (upd HT T2 (.tup [.ref ga, vN m])) D (.lst (xs ++ [.ref T2]))) := ((TuS.of sT).trans (TuS.of sT2)).trans (TuS.lst (sT2 _ _ hxT))
        rw [take_succ_of ez, List.map_append]
        refine (hX.monoT tX).append (.cons (.tup (by rw [upd_ne hT2D]; exact upd_same) (.cons ((hg2.mono sx).monoT tX) (.cons (.int _) .nil))) .nil)
    · rintro Hx ⟨sx, xs, hxs, hX⟩
      rw [show us.length = ((partsF r.ps w.2).zip ns).length from lz.symm, List.take_length] at hX
      have sHx := s1.trans sx
      generalize hZZ : (partsF r.ps w.2).zip ns = Z0 at *
      refine ⟨by decide, fun pf hpf => ?_⟩
      have s2 := same_new (o := .lst []) hpf
      have hDf : D ≠ pf := ne_of_none hxs hpf
      have hpfH : H pf = none := sHx.free hpf
      have hf2 : (upd Hx pf (.lst [])) pf = some (.lst []) := upd_same
      generalize upd Hx pf (.lst []) = H2 at *
      have s02 := sHx.trans s2
      refine ⟨_, rfl, _, rfl, wa, _, 0, _, rfl, rfl, SqT.of (s02 _ _ hwa), atI_nat (j := 0) rfl, a, gvs, _, _, rfl, rfl, SqL.of (s02 _ _ hgv), atI_nat hb1, b, _, 1, _, rfl, rfl, SqT.of (s02 _ _ hb), atI_nat (j := 1) rfl, pa, rfl, ⟨_, SqT.of (s02 _ _ hpa)⟩, ?_⟩
      refine for_tup (K := K) (a := pa) (xs := r.ps.map V.str) (fun i σ Hc => ∃ (o5 : Option V) (ls fs : List V), σ = [some (.ref a), some (.ref wa), some (.ref nl), some (.ref D), some (.ref pf), o5, none, none] ∧ Same H Hc ∧ Hc D = some (.lst ls) ∧ IsL Hc ls ((tFold (r.ps.take i) Z0).2.map eFn) ∧
          Hc pf = some (.lst fs) ∧ IsL Hc fs ((tFold (r.ps.take i) Z0).1.map eTk))
        ⟨none, xs, [], rfl, s02, s2 _ _ hxs, hX.mono s2, hf2, .nil⟩ (fun i σ Hc _ ⟨_, _, _, _, s, _⟩ => SqT.of (s _ _ hpa)) ?_ ?_
      · rintro i y σ Hc hi ⟨o5, ls, fs, rfl, sc, hls, hLI, hfs, hFI⟩
        rw [List.getElem?_map] at hi
        cases ei : r.ps[i]? with
        | none => rw [ei] at hi; cases hi
        | some x =>
          rw [ei] at hi
          cases hi
          have hil : i < r.ps.length := (List.getElem?_eq_some_iff.mp ei).1
          have et : tFold (r.ps.take (i + 1)) Z0 = tStep (tFold (r.ps.take i) Z0) x := by
            rw [take_succ_of ei]
            unfold tFold
            rw [List.foldl_append]
            rfl
          have lF := hFI.length
          rw [List.length_map] at lF
          have hFl := tFold_len (r.ps.take i) ([], Z0)
          have hil4 : (r.ps.take i).length ≤ 4 := by rw [List.length_take]; omega
          have hFl' : (tFold (r.ps.take i) Z0).1.length ≤ 4 := by
            unfold tFold
            simp only [List.length_nil] at hFl
            omega
          have hnmt : nms (r.ps.take i) + (if isN x = true then 1 else 0) ≤ nms r.ps := by
            have h1 : nms r.ps = nms (r.ps.take i) + nms (r.ps.drop i) := by
              unfold nms
              rw [← List.length_append, ← List.filter_append, List.take_append_drop]
            have h2 : r.ps.drop i = x :: r.ps.drop (i + 1) := by
              rw [List.drop_eq_getElem_cons hil, (List.getElem?_eq_some_iff.mp ei).2]
            rw [h2, nms_cons] at h1
            omega
          have hrest := tFold_rest (r.ps.take i) ([], Z0) (by show _ ≤ Z0.length; omega)
          have hrest' : (tFold (r.ps.take i) Z0).2 = Z0.drop (nms (r.ps.take i)) := hrest
          rw [et]
          unfold tStep
          refine ⟨_, rfl, .inl ⟨rfl, _, SqL.of hfs⟩, _, rfl, x, rfl, (hpl r hrG).2 x (List.mem_of_getElem? ei), _, rfl, ?_⟩
          by_cases hx : isN x = true
          · rw [if_pos hx, hx]
            rw [if_pos hx] at hnmt
            generalize hFF : tFold (r.ps.take i) Z0 = FF at *
            obtain ⟨acc, ZZ⟩ := FF
            have hZl : ZZ.length ≥ 1 := by
              have : ZZ = Z0.drop (nms (r.ps.take i)) := hrest'
              rw [this, List.length_drop]
              omega
            cases ZZ with
            | nil => simp at hZl
            | cons z Z =>
              obtain ⟨lv, lvs, rfl, hz1, hz2⟩ := IsL.cons_inv hLI
              refine iteT ⟨_, rfl, .inl ⟨rfl, _, SqL.of hls⟩, D, _, 0, 0, lv, rfl, rfl, hls, by decide, by decide, by simp [seqIndex?], rfl, ?_⟩
              have tL : TuS Hc (upd Hc D (.lst lvs)) := TuS.lst hls
              have hf3 : (upd Hc D (.lst lvs)) pf = some (.lst fs) := by rw [upd_ne (Ne.symm hDf)]; exact hfs
              have s3 : Same H (upd Hc D (.lst lvs)) := same_upd sc hDH
              have hD3 : (upd Hc D (.lst lvs)) D = some (.lst lvs) := upd_same
              refine ⟨pf, fs, _, rfl, rfl, hf3, small6 (by omega), some (.str x), lvs, _, rfl, same_upd s3 hpfH, ?_, ?_, upd_same, ?_⟩
              · rw [upd_ne hDf]
                exact hD3
              · exact (hz2.monoT tL).monoT (TuS.lst hf3)
              · rw [List.map_append]
                exact ((hFI.monoT tL).monoT (TuS.lst hf3)).append (.cons ((hz1.monoT tL).monoT (TuS.lst hf3)) .nil)
          · have hx' : isN x = false := by simpa using hx
            rw [if_neg hx, hx']
            refine iteF ⟨_, rfl, by show 2 ≤ sizeLine; decide, fun T3 hT3 => ?_⟩
            have s3 := same_new (o := .tup [.str x, .non]) hT3
            have hT3f : T3 ≠ pf := fun z => by subst z; rw [hfs] at hT3; cases hT3
            have tF : TuS Hc (upd (upd Hc T3 (.tup [.str x, .non])) pf (.lst (fs ++ [.ref T3]))) := (TuS.of s3).trans (TuS.lst (s3 _ _ hfs))
            refine ⟨pf, fs, _, rfl, rfl, s3 _ _ hfs, small6 (by omega), some (.str x), ls, _, rfl, same_upd (sc.trans s3) hpfH, ?_, hLI.monoT tF, upd_same, ?_⟩
            · rw [upd_ne hDf]
              exact s3 _ _ hls
            · rw [List.map_append]
              refine (hFI.monoT tF).append (.cons (.tup (by rw [upd_ne hT3f]; exact upd_same) (.cons (.str _) (.cons .non .nil))) .nil)
      · rintro σ Hc ⟨o5, ls, fs, rfl, sc, hls, hLI, hfs, hFI⟩
        rw [List.length_map, List.take_length] at hFI
        have lF := hFI.length
        rw [List.length_map] at lF
        have hFl := tFold_len r.ps ([], Z0)
        have hFl' : (tFold r.ps Z0).1.length ≤ 4 := by
          unfold tFold
          simp only [List.length_nil] at hFl
          omega
        refine ⟨_, rfl, .inl ⟨rfl, _, SqL.of hfs⟩, _, rfl, wa, _, 0, _, rfl, rfl, SqT.of (sc _ _ hwa), atI_nat (j := 0) rfl, _, rfl, _, rfl, wa, _, 0, _, rfl, rfl, SqT.of (sc _ _ hwa), atI_nat (j := 0) rfl, a, gvs, _, _, rfl, rfl, SqL.of (sc _ _ hgv), atI_nat hb1, b, _, 1, _, rfl, rfl, SqT.of (sc _ _ hb), atI_nat (j := 1) rfl, pa, _, rfl, .inr (SqT.of (sc _ _ hpa)), by show 2 ≤ sizeLine; decide, fun T4 hT4 => ?_⟩
        rw [List.length_map]
        have s4 := same_new (o := .tup [.int (w.1 : Int), .int (r.ps.length : Int)]) hT4
        have hT4f : T4 ≠ pf := fun z => by subst z; rw [hfs] at hT4; cases hT4
        have tF : TuS Hc (upd (upd Hc T4 (.tup [.int (w.1 : Int), .int (r.ps.length : Int)])) pf (.lst (fs ++ [.ref T4]))) := (TuS.of s4).trans (TuS.lst (s4 _ _ hfs))
        refine ⟨pf, fs, _, rfl, rfl, s4 _ _ hfs, small6 (by omega), _, rfl, k _ pf (same_upd (sc.trans s4) hpfH) hpfH ⟨_, upd_same, ?_⟩⟩
        rw [List.map_append]
        refine (hFI.monoT tF).append (.cons (.tup (by rw [upd_ne hT4f]; exact upd_same) (.cons (.int _) (.cons (.int _) .nil))) .nil)
end
end Rg
namespace Rg
open PySem PySem.Spec L2
mutual
def eNd : Nd → PyData
  | .wd s => .str s
  | .nd n cs => .tuple [.int (n : Int), .tuple (eNds cs)]
def eNds : List Nd → List PyData
  | [] => []
  | t :: ts => eNd t :: eNds ts
end
theorem eNds_map : ∀ l : List Nd, eNds l = l.map eNd
  | [] => by unfold eNds; rfl
  | t :: ts => by unfold eNds; rw [eNds_map ts]; rfl
mutual
def szN : Nd → Nat
  | .wd _ => 1
  | .nd _ cs => 2 + szs cs
def szs : List Nd → Nat
  | [] => 0
  | t :: ts => szN t + szs ts
end
theorem szs_append : ∀ a b : List Nd, szs (a ++ b) = szs a + szs b
  | [], b => by simp [szs]
  | t :: a, b => by
    rw [List.cons_append]
    simp only [szs]
    rw [szs_append a b]
    omega
def trN (G : Gr) (W : Fct → List Way) (g : Fct) (n : Nat) : Nd := ((TT G W g)[n]?).getD (.wd ⟨#[]⟩)
def chN (G : Gr) (W : Fct → List Way) : List Str → List (Fct × Nat) → List Nd
  | x :: ps, Z => if isN x = true then (match Z with
    | z :: Z' => trN G W z.1 z.2 :: chN G W ps Z'
    | [] => []) else .wd x :: chN G W ps Z
  | [], _ => []
def exT (G : Gr) (W : Fct → List Way) (m : List Nd) : Tk → List Nd
  | .wrd s => m ++ [.wd s]
  | .fct g n => m ++ [trN G W g n]
  | .mk num len => m.take (m.length - len) ++ [.nd num (m.drop (m.length - len))]
def runT (G : Gr) (W : Fct → List Way) (m : List Nd) (ts : List Tk) : List Nd := ts.foldl (exT G W) m
theorem runT_append {G : Gr} {W : Fct → List Way} (m : List Nd) (a b : List Tk) : runT G W m (a ++ b) = runT G W (runT G W m a) b := by
  unfold runT
  rw [List.foldl_append]
theorem flatMap_get {α β : Type} {f : α → List β} {K : Nat} : ∀ {l : List α} {n v : Nat} {a : α}, (∀ x ∈ l, (f x).length = K) → l[n]? = some a → v < K → (l.flatMap f)[n * K + v]? = (f a)[v]?
  | [], n, v, a, _, h, _ => by simp at h
  | b :: l, 0, v, a, hk, h, hv => by
    have e : b = a := by simpa using h
    subst e
    rw [List.flatMap_cons, Nat.zero_mul, Nat.zero_add, List.getElem?_append_left (by rw [hk b List.mem_cons_self]; exact hv)]
  | b :: l, n + 1, v, a, hk, h, hv => by
    rw [List.flatMap_cons, Nat.succ_mul, List.getElem?_append_right (by rw [hk b List.mem_cons_self]; omega), hk b List.mem_cons_self]
    rw [show n * K + K + v - K = n * K + v by omega]
    exact flatMap_get (fun x hx => hk x (List.mem_cons_of_mem _ hx)) (by simpa using h) hv
theorem valD_lt {C : Fct → Nat} : ∀ {gs : List Fct} {ns : List Nat}, DigOk C gs ns → valD C gs ns < prodN C gs
  | [], [], _ => by show 0 < 1; decide
  | g :: gs, n :: ns, h => by
    have h1 := valD_lt h.2
    have h2 := h.1
    rw [prodN_cons]
    show n * prodN C gs + valD C gs ns < _
    calc n * prodN C gs + valD C gs ns < n * prodN C gs + prodN C gs := by omega
      _ = (n + 1) * prodN C gs := by rw [Nat.succ_mul]
      _ ≤ C g * prodN C gs := Nat.mul_le_mul_right _ h2
  | [], _ :: _, h => h.elim
  | _ :: _, [], h => h.elim
theorem kidsL_get {G : Gr} {W : Fct → List Way} : ∀ {ps : List Str} {c : List Nat} {ns : List Nat}, c.length = ps.length + 1 → DigOk (cnt G W) (partsF ps c) ns →
    (kidsL (TT G W) ps c)[valD (cnt G W) (partsF ps c) ns]? = some (chN G W ps ((partsF ps c).zip ns))
  | [], c, ns, _, h => by
    rw [partsF_nil] at h ⊢
    cases ns with
    | nil => unfold kidsL chN; rfl
    | cons n ns => exact h.elim
  | x :: ps, [], _, h, _ => by simp at h
  | x :: ps, [i], _, h, _ => by simp at h
  | x :: ps, i :: j :: c, ns, h, hd => by
    have hl : (j :: c).length = ps.length + 1 := by simp at h ⊢; omega
    rw [partsF_cons] at hd ⊢
    by_cases hx : isN x = true
    · rw [if_pos hx] at hd ⊢
      cases ns with
      | nil => exact hd.elim
      | cons n ns =>
        obtain ⟨h1, h2⟩ := hd
        replace h2 : DigOk (cnt G W) (partsF ps (j :: c)) ns := h2
        have ih := kidsL_get hl h2
        have hv := valD_lt h2
        show (kidsL (TT G W) (x :: ps) (i :: j :: c))[n * prodN (cnt G W) (partsF ps (j :: c)) + valD (cnt G W) (partsF ps (j :: c)) ns]? = some (chN G W (x :: ps) (((x, i, j), n) :: (partsF ps (j :: c)).zip ns))
        unfold kidsL chN
        rw [if_pos hx, if_pos hx]
        have hg : (TT G W (x, i, j))[n]? = some (trN G W (x, i, j) n) := by
          unfold trN
          rw [List.getElem?_eq_getElem h1]
          rfl
        have hK := kidsL_len (T := TT G W) hl
        rw [flatMap_get (K := prodN (cnt G W) (partsF ps (j :: c))) (fun t _ => by rw [List.length_map]; exact hK) hg hv, List.getElem?_map, ih]
        rfl
    · rw [if_neg hx] at hd ⊢
      rw [List.nil_append] at hd ⊢
      have ih := kidsL_get hl hd
      unfold kidsL chN
      rw [if_neg hx, if_neg hx, List.getElem?_map, ih]
      rfl
theorem runT_fold {G : Gr} {W : Fct → List Way} : ∀ (ps : List Str) (acc : List Tk) (Z : List (Fct × Nat)) (m : List Nd), nms ps ≤ Z.length → runT G W m (ps.foldl tStep (acc, Z)).1 = runT G W m acc ++ chN G W ps Z
  | [], acc, Z, m, _ => by unfold chN; simp
  | x :: ps, acc, Z, m, h => by
    rw [nms_cons] at h
    rw [List.foldl_cons]
    unfold chN
    by_cases hx : isN x = true
    · rw [if_pos hx] at h ⊢
      cases Z with
      | nil => simp at h
      | cons z Z =>
        have h0 : tStep (acc, z :: Z) x = (acc ++ [.fct z.1 z.2], Z) := by unfold tStep; rw [if_pos hx]
        rw [h0, runT_fold ps _ _ m (by simp at h; omega), runT_append]
        show (runT G W m acc ++ [trN G W z.1 z.2]) ++ _ = _
        rw [List.append_assoc]
        rfl
    · rw [if_neg hx] at h ⊢
      have h0 : tStep (acc, Z) x = (acc ++ [.wrd x], Z) := by unfold tStep; rw [if_neg hx]
      rw [h0, runT_fold ps _ _ m (by omega), runT_append]
      show (runT G W m acc ++ [.wd x]) ++ _ = _
      rw [List.append_assoc]
      rfl
theorem chN_len {G : Gr} {W : Fct → List Way} : ∀ (ps : List Str) (Z : List (Fct × Nat)), nms ps ≤ Z.length → (chN G W ps Z).length = ps.length
  | [], Z, _ => by unfold chN; rfl
  | x :: ps, Z, h => by
    rw [nms_cons] at h
    unfold chN
    by_cases hx : isN x = true
    · rw [if_pos hx] at h ⊢
      cases Z with
      | nil => simp at h
      | cons z Z =>
        show (trN G W z.1 z.2 :: chN G W ps Z).length = _
        rw [List.length_cons, List.length_cons, chN_len ps Z (by simp at h; omega)]
    · rw [if_neg hx] at h ⊢
      rw [List.length_cons, List.length_cons, chN_len ps Z (by omega)]
/-- one task is the tasks of its way -/
theorem exT_way {G : Gr} {Vs : List Fct} {W : Fct → List Way} (S : Grv G Vs W) {R : List Fct} (T : Topo G Vs W R) {g : Fct} (hg : g ∈ Vs) {A B : List Way} {w : Way} {n : Nat} {ns : List Nat} (hW : W g = A ++ w :: B)
    (hn : n = (A.map fun w => prodN (cnt G W) (partsW G w)).sum + valD (cnt G W) (partsW G w) ns) (hd : DigOk (cnt G W) (partsW G w) ns) :
    ∃ r, G[w.1]? = some r ∧ nms r.ps ≤ ((partsF r.ps w.2).zip ns).length ∧ trN G W g n = .nd w.1 (chN G W r.ps ((partsF r.ps w.2).zip ns)) := by
  have hwm : w ∈ W g := by rw [hW]; simp
  obtain ⟨r, h1, h2⟩ := S.wok g hg w hwm
  have epw : partsW G w = partsF r.ps w.2 := by unfold partsW; rw [h1]
  rw [epw] at hd hn
  have lp := partsF_len h2
  have ld := hd.len
  refine ⟨r, h1, by rw [List.length_zip]; omega, ?_⟩
  have hlen : ((A.flatMap (wayTrees G (TT G W)))).length = (A.map fun w => prodN (cnt G W) (partsW G w)).sum := flatMap_len_sum fun w' hw' => wayTrees_len (S.wok g hg w' (by rw [hW]; simp [hw']))
  have hv : valD (cnt G W) (partsF r.ps w.2) ns < (wayTrees G (TT G W) w).length := by
    rw [wayTrees_len ⟨r, h1, h2⟩, epw]
    exact valD_lt hd
  have hget : (TT G W g)[n]? = some (.nd w.1 (chN G W r.ps ((partsF r.ps w.2).zip ns))) := by
    rw [TT_eq S T hg, hW, List.flatMap_append, List.flatMap_cons, hn, ← hlen, List.getElem?_append_right (by omega)]
    rw [show (A.flatMap (wayTrees G (TT G W))).length + valD (cnt G W) (partsF r.ps w.2) ns - (A.flatMap (wayTrees G (TT G W))).length = valD (cnt G W) (partsF r.ps w.2) ns by omega]
    rw [List.getElem?_append_left hv]
    unfold wayTrees
    rw [h1]
    show ((kidsL (TT G W) r.ps w.2).map (Nd.nd w.1))[_]? = _
    rw [List.getElem?_map, kidsL_get h2 hd]
    rfl
  unfold trN
  rw [hget]
  rfl
theorem runT_way {G : Gr} {W : Fct → List Way} {w : Way} {r : Rl} (h1 : G[w.1]? = some r) {ns : List Nat} (hz : nms r.ps ≤ ((partsF r.ps w.2).zip ns).length) (m : List Nd) :
    runT G W m (tasksW G w ns) = m ++ [.nd w.1 (chN G W r.ps ((partsF r.ps w.2).zip ns))] := by
  unfold tasksW
  rw [h1]
  show runT G W m ((tFold r.ps ((partsF r.ps w.2).zip ns)).1 ++ [.mk w.1 r.ps.length]) = _
  rw [runT_append]
  unfold tFold
  rw [runT_fold _ _ _ _ hz]
  have hl := chN_len (G := G) (W := W) r.ps _ hz
  show exT G W (m ++ chN G W r.ps ((partsF r.ps w.2).zip ns)) (.mk w.1 r.ps.length) = _
  generalize chN G W r.ps ((partsF r.ps w.2).zip ns) = ch at *
  show (m ++ ch).take ((m ++ ch).length - r.ps.length) ++ [Nd.nd w.1 ((m ++ ch).drop ((m ++ ch).length - r.ps.length))] = _
  rw [List.length_append, hl, Nat.add_sub_cancel, List.take_left' rfl, List.drop_left' rfl]
/-- the weight of what waits -/
def wtT (G : Gr) (W : Fct → List Way) : List Tk → Nat
  | [] => 0
  | .fct g n :: ts => szN (trN G W g n) + wtT G W ts
  | .wrd _ :: ts => 1 + wtT G W ts
  | .mk _ _ :: ts => 1 + wtT G W ts
theorem wtT_append {G : Gr} {W : Fct → List Way} : ∀ a b : List Tk, wtT G W (a ++ b) = wtT G W a + wtT G W b
  | [], b => by simp [wtT]
  | .fct g n :: a, b => by rw [List.cons_append]; simp only [wtT]; rw [wtT_append a b]; omega
  | .wrd _ :: a, b => by rw [List.cons_append]; simp only [wtT]; rw [wtT_append a b]; omega
  | .mk _ _ :: a, b => by rw [List.cons_append]; simp only [wtT]; rw [wtT_append a b]; omega
theorem szN_pos : ∀ t : Nd, 1 ≤ szN t
  | .wd _ => by simp [szN]
  | .nd _ _ => by simp only [szN]; omega
theorem wtT_len {G : Gr} {W : Fct → List Way} : ∀ a : List Tk, a.length ≤ wtT G W a
  | [] => Nat.zero_le _
  | .fct g n :: a => by have := wtT_len (G := G) (W := W) a; have := szN_pos (trN G W g n); simp only [wtT, List.length_cons]; omega
  | .wrd _ :: a => by have := wtT_len (G := G) (W := W) a; simp only [wtT, List.length_cons]; omega
  | .mk _ _ :: a => by have := wtT_len (G := G) (W := W) a; simp only [wtT, List.length_cons]; omega
theorem wtT_fold {G : Gr} {W : Fct → List Way} : ∀ (ps : List Str) (acc : List Tk) (Z : List (Fct × Nat)), nms ps ≤ Z.length → wtT G W (ps.foldl tStep (acc, Z)).1 = wtT G W acc + szs (chN G W ps Z)
  | [], acc, Z, _ => by unfold chN; simp [szs]
  | x :: ps, acc, Z, h => by
    rw [nms_cons] at h
    rw [List.foldl_cons]
    unfold chN
    by_cases hx : isN x = true
    · rw [if_pos hx] at h ⊢
      cases Z with
      | nil => simp at h
      | cons z Z =>
        have h0 : tStep (acc, z :: Z) x = (acc ++ [.fct z.1 z.2], Z) := by unfold tStep; rw [if_pos hx]
        rw [h0, wtT_fold ps _ _ (by simp at h; omega), wtT_append]
        simp only [wtT, szs]
        omega
    · rw [if_neg hx] at h ⊢
      have h0 : tStep (acc, Z) x = (acc ++ [.wrd x], Z) := by unfold tStep; rw [if_neg hx]
      rw [h0, wtT_fold ps _ _ (by omega), wtT_append]
      simp only [wtT, szs, szN]
      omega
/-- enough is made for what waits -/
def Val : Nat → List Tk → Prop
  | _, [] => True
  | k, .fct _ _ :: ts => Val (k + 1) ts
  | k, .wrd _ :: ts => Val (k + 1) ts
  | k, .mk _ len :: ts => len ≤ k ∧ Val (k - len + 1) ts
def plainTk : Tk → Bool
  | .mk _ _ => false
  | _ => true
theorem Val_append : ∀ (a b : List Tk) (k : Nat), a.all plainTk = true → (Val k (a ++ b) ↔ Val (k + a.length) b)
  | [], b, k, _ => Iff.rfl
  | .fct g n :: a, b, k, h => by
    rw [List.cons_append, List.length_cons]
    show Val (k + 1) (a ++ b) ↔ _
    rw [Val_append a b (k + 1) (by simpa [plainTk] using h), show k + 1 + a.length = k + (a.length + 1) by omega]
  | .wrd _ :: a, b, k, h => by
    rw [List.cons_append, List.length_cons]
    show Val (k + 1) (a ++ b) ↔ _
    rw [Val_append a b (k + 1) (by simpa [plainTk] using h), show k + 1 + a.length = k + (a.length + 1) by omega]
  | .mk _ _ :: a, b, k, h => by simp [plainTk] at h
theorem tFold_plain : ∀ (ps : List Str) (acc : List Tk) (Z : List (Fct × Nat)), acc.all plainTk = true → nms ps ≤ Z.length → (ps.foldl tStep (acc, Z)).1.all plainTk = true ∧ (ps.foldl tStep (acc, Z)).1.length = acc.length + ps.length ∧ ∀ t ∈ (ps.foldl tStep (acc, Z)).1, t ∈ acc ∨ (∃ s ∈ ps, isN s = false ∧ t = .wrd s) ∨ ∃ z ∈ Z, t = .fct z.1 z.2
  | [], acc, Z, h, _ => ⟨h, rfl, fun t ht => .inl ht⟩
  | x :: ps, acc, Z, h, hz => by
    rw [nms_cons] at hz
    rw [List.foldl_cons]
    by_cases hx : isN x = true
    · rw [if_pos hx] at hz
      cases Z with
      | nil => simp at hz
      | cons z Z =>
        have h0 : tStep (acc, z :: Z) x = (acc ++ [.fct z.1 z.2], Z) := by unfold tStep; rw [if_pos hx]
        rw [h0]
        obtain ⟨h1, h2, h3⟩ := tFold_plain ps (acc ++ [.fct z.1 z.2]) Z (by rw [List.all_append, h]; rfl) (by simp at hz; omega)
        refine ⟨h1, by rw [h2]; simp only [List.length_append, List.length_cons, List.length_nil]; omega, fun t ht => ?_⟩
        rcases h3 t ht with q | ⟨s, q1, q2⟩ | ⟨z', q1, q2⟩
        · rcases List.mem_append.mp q with q | q
          · exact .inl q
          · exact .inr (.inr ⟨z, List.mem_cons_self, List.mem_singleton.mp q⟩)
        · exact .inr (.inl ⟨s, List.mem_cons_of_mem _ q1, q2⟩)
        · exact .inr (.inr ⟨z', List.mem_cons_of_mem _ q1, q2⟩)
    · rw [if_neg hx] at hz
      have h0 : tStep (acc, Z) x = (acc ++ [.wrd x], Z) := by unfold tStep; rw [if_neg hx]
      rw [h0]
      obtain ⟨h1, h2, h3⟩ := tFold_plain ps (acc ++ [.wrd x]) Z (by rw [List.all_append, h]; rfl) (by omega)
      refine ⟨h1, by rw [h2]; simp only [List.length_append, List.length_cons, List.length_nil]; omega, fun t ht => ?_⟩
      rcases h3 t ht with q | ⟨s, q1, q2⟩ | ⟨z', q1, q2⟩
      · rcases List.mem_append.mp q with q | q
        · exact .inl q
        · exact .inr (.inl ⟨x, List.mem_cons_self, by simpa using hx, List.mem_singleton.mp q⟩)
      · exact .inr (.inl ⟨s, List.mem_cons_of_mem _ q1, q2⟩)
      · exact .inr (.inr ⟨z', q1, q2⟩)
theorem DigOk.zip {C : Fct → Nat} : ∀ {gs : List Fct} {ns : List Nat}, DigOk C gs ns → ∀ z ∈ gs.zip ns, z.1 ∈ gs ∧ z.2 < C z.1
  | [], [], _, z, hz => by simp at hz
  | g :: gs, n :: ns, h, z, hz => by
    rw [List.zip_cons_cons] at hz
    rcases List.mem_cons.mp hz with e | hz
    · subst e
      exact ⟨List.mem_cons_self, h.1⟩
    · obtain ⟨h1, h2⟩ := DigOk.zip h.2 z hz
      exact ⟨List.mem_cons_of_mem _ h1, h2⟩
  | [], _ :: _, h, _, _ => h.elim
  | _ :: _, [], h, _, _ => h.elim
end Rg
namespace Rg
open PySem PySem.Spec L2
def SzOk : Prop := ∀ (G : Gr) (row : List Str) (L V R : List Fct), Sized G row → IsFound G row L → IsGrove G row L V → Topo G (sortF V) (Wf G row L) R → ∀ f ∈ sortF V, ∀ t ∈ TT G (Wf G row L) f, szN t ≤ 900000
theorem cutV_from {xs : List V} {k : Nat} (h : k ≤ xs.length) : cutV xs (some ((xs.length : Int) - (k : Int))) none = xs.drop (xs.length - k) := by
  unfold cutV
  rw [show ((xs.length : Int) - (k : Int)) = ((xs.length - k : Nat) : Int) by omega, HT.sIx_nat, HT.sIx_none, show min (xs.length - k) xs.length = xs.length - k by omega]
  rw [List.take_of_length_le (by rw [List.length_drop]; omega)]
theorem cutV_to {xs : List V} {k : Nat} (h : k ≤ xs.length) : cutV xs none (some ((xs.length : Int) - (k : Int))) = xs.take (xs.length - k) := by
  unfold cutV
  rw [show ((xs.length : Int) - (k : Int)) = ((xs.length - k : Nat) : Int) by omega, HT.sIx_nat, HT.sIx_none, show min (xs.length - k) xs.length = xs.length - k by omega]
  simp
inductive TkIs (H : Hp) : V → Tk → Prop
  | fct {T fa : Addr} {g : Fct} {n : Nat} : H T = some (.tup [.ref fa, vN n]) → H fa = some (.tup [.str g.1, vN g.2.1, vN g.2.2]) → TkIs H (.ref T) (.fct g n)
  | wrd {T : Addr} {s : Str} : H T = some (.tup [.str s, .non]) → TkIs H (.ref T) (.wrd s)
  | mk {T : Addr} {a b : Nat} : H T = some (.tup [vN a, vN b]) → TkIs H (.ref T) (.mk a b)
theorem isTk {H : Hp} {v : V} : ∀ {t : Tk}, Is H v (eTk t) → TkIs H v t
  | .fct g n, h => by
    obtain ⟨a, xs, rfl, ha, hx⟩ := Is.tup_inv (show Is H v (.tuple [eFct g, .int (n : Int)]) from h)
    obtain ⟨v1, r1, rfl, b1, hx⟩ := hx.cons_inv
    obtain ⟨v2, r2, rfl, b2, hx⟩ := hx.cons_inv
    rw [hx.nil_inv, b2.int_inv] at ha
    obtain ⟨fa, rfl, hf⟩ := isFct b1
    exact .fct ha hf
  | .wrd s, h => by
    obtain ⟨a, xs, rfl, ha, hx⟩ := Is.tup_inv (show Is H v (.tuple [.str s, .none]) from h)
    obtain ⟨v1, r1, rfl, b1, hx⟩ := hx.cons_inv
    obtain ⟨v2, r2, rfl, b2, hx⟩ := hx.cons_inv
    rw [hx.nil_inv, b1.str_inv, show v2 = .non by cases b2; rfl] at ha
    exact .wrd ha
  | .mk a b, h => by
    obtain ⟨a', xs, rfl, ha, hx⟩ := Is.tup_inv (show Is H v (.tuple [.int (a : Int), .int (b : Int)]) from h)
    obtain ⟨v1, r1, rfl, b1, hx⟩ := hx.cons_inv
    obtain ⟨v2, r2, rfl, b2, hx⟩ := hx.cons_inv
    rw [hx.nil_inv, b1.int_inv, b2.int_inv] at ha
    exact .mk ha
structure TWs (Hs : Hp) (G : Gr) (Vs : List Fct) (W : Fct → List Way) (t0 : Nd) (pp : Addr) (kk : Nat) (pm : Addr) (ts : List Tk) (m : List Nd) (ms us : List V) (Hc : Hp) : Prop where
  same : Same Hs Hc
  pm0 : Hs pm = none
  ne : pm ≠ pp
  hm : Hc pm = some (.lst ms)
  im : IsL Hc ms (m.map eNd)
  hp : Hc pp = some (.lst us)
  ip : IsL Hc us (ts.reverse.map eTk)
  run : runT G W m ts = [t0]
  val : Val m.length ts
  ok : ∀ g k, Tk.fct g k ∈ ts → g ∈ Vs ∧ k < cnt G W g
  wt : wtT G W ts = kk
  sm : m.length + kk ≤ 900000
section
variable {P : Program} {w : World} {K : PySem.W.Frag} {mg : Str → Option Value} {base : Heap} {f : Addr} {fd : FuncData}
def sp_tree_numbered : Sp := fun vs H Q _ => ∃ (a ra : Addr) (G : Gr) (row : List Str) (n : Nat) (L V R : List Fct), vs = [.ref a, .ref ra, .int (n : Int)] ∧ LD H a (G.map eRl) ∧ WL H ra row ∧ Sized G row ∧ IsFound G row L ∧ IsGrove G row L V ∧ Topo G (sortF V) (Wf G row L) R ∧ n < manyT G row L V ∧
  ∀ H' v, Same H H' → Is H' v (eNd (trN G (Wf G row L) (topF G row) n)) → Q v H'
theorem ok_tree_numbered (F : Fun K "tree_numbered" "tree_numbered" st_tree_numbered f fd) (B : Bl mg) (hbig : BigOk) (hsz : SzOk) (Cg : Cal P w K mg base 6 "grove" ["grammar", "row"] sp_grove) (Cc : Cal P w K mg base 5 "counts_of" ["grammar", "some"] sp_counts_of)
    (Cw : Cal P w K mg base 36 "way_numbered" ["grammar", "counts", "ways", "number"] sp_way_numbered) (Ct : Cal P w K mg base 3 "tasks_of" ["grammar", "way", "numbers"] sp_tasks_of) :
    FnOk P w K mg base CX0 37 f fd ["grammar", "row", "number"] sp_tree_numbered := by
  refine F.ok sc_tree_numbered (fun vs H Q E h => ?_) (fun cdv A outer s H vs Q E hr h => ?_)
  · obtain ⟨a, ra, G, row, n, L, V, R, rfl, _⟩ := h
    rfl
  · obtain ⟨a, ra, G, row, n, L, VV, R, rfl, hG, hrow, S, hL, hV, hT, hn, k⟩ := h
    have nd := sc_tree_numbered.nd
    have hu := hu_of hr
    refine ⟨_, pss_cons (ps_set (i := 3) nd rfl (Or.inl rfl) (pe_cal Cg (hr.mono (by decide)) rfl (pa_cons (pv 0) (pa_cons (pv 1) pa_nil))))
      (pss_cons (ps_set (i := 4) nd rfl (Or.inl rfl) (pe_cal Cc (hr.mono (by decide)) rfl (pa_cons (pv 0) (pa_cons (pv 3) pa_nil))))
      (pss_cons (ps_if (pt_cmp (pc_isN (pv 4))) (pss_one ps_never) pss_nil)
      (pss_cons (ps_set (i := 5) nd rfl (Or.inl rfl) (pe_tup (pa_cons (pe_ix ix_tup (pe_ix ix_list (pv 0) pe_int (fun _ _ => rfl)) pe_int (fun _ _ => rfl)) (pa_cons pe_int (pa_cons (pe_len B rfl (pv 1)) pa_nil)))))
      (pss_cons (ps_if (PW.pt (pw_or (pt_cmpR op_lt (pv 2) pe_int (nomark _)) (pw_or1 (pt_cmpR op_ge (pv 2) (pe_dget2 hu (pv 4) (pv 5) pe_int ⟨rfl, rfl, rfl, rfl⟩) (nomark _))))) (pss_one ps_never) pss_nil)
      (pss_cons (ps_set (i := 6) nd rfl (Or.inl rfl) (pe_callTy (call_dictT rfl (Nat.lt_of_le_of_lt (Nat.add_le_add_left (by decide : 2 ≤ 64) _) hr.units)) rfl B.dict PyProof.Rows.boot_dict (pa_cons (pv 3) pa_nil)))
      (pss_cons (ps_set (i := 7) nd rfl (Or.inl rfl) (pe_lst pa_nil))
      (pss_cons (ps_set (i := 8) nd rfl (Or.inl rfl) (pe_lst (pa_cons (pe_tup (pa_cons (pv 5) (pa_cons (pv 2) pa_nil))) pa_nil)))
      (pss_cons (ps_while PassesOwn.never (pt_cmpR (op_neE hr.units0) (pv 8) (pe_lst pa_nil) (nomark _))
        (pss_cons (ps_asg (pe_pop (pv 8)) (pg_tup rfl (pgs_cons (pg_name (i := 9) nd rfl (Or.inl rfl)) (pgs_cons (pg_name (i := 10) nd rfl (Or.inl rfl)) pgs_nil))))
        (pss_one (ps_if (pt_val (pe_callB call_isi rfl B.isinstance PyProof.Rows.boot_isinstance (pa_cons (pv 9) (pa_cons (pe_bltn (v := .ty "str") rfl B.str PyProof.Rows.boot_str rfl) pa_nil)) (by decide) (by decide)))
          (pss_one (ps_expr (pe_app (pv 7) (pv 9))))
          (pss_one (ps_if (pt_val (pe_callB call_isi rfl B.isinstance PyProof.Rows.boot_isinstance (pa_cons (pv 9) (pa_cons (pe_bltn (v := .ty "tuple") rfl B.tuple PyProof.Rows.boot_tuple rfl) pa_nil)) (by decide) (by decide)))
            (pss_cons (ps_asg (pe_cal Cw hr rfl (pa_cons (pv 0) (pa_cons (pv 4) (pa_cons (pe_dget hu (pv 6) (pv 9) (fun _ _ => rfl)) (pa_cons (pv 10) pa_nil))))) (pg_tup rfl (pgs_cons (pg_name (i := 11) nd rfl (Or.inl rfl)) (pgs_cons (pg_name (i := 12) nd rfl (Or.inl rfl)) pgs_nil))))
            (pss_one (ps_expr (pe_ext (pv 8) (pe_revL (pe_cal Ct (hr.mono (by decide)) rfl (pa_cons (pv 0) (pa_cons (pv 11) (pa_cons (pv 12) pa_nil)))))))))
            (pss_cons (ps_set (i := 13) nd rfl (Or.inl rfl) (pe_callTy (r := rTupOf K) tupOf rfl B.tuple PyProof.Rows.boot_tuple (pa_cons (pe_slice sl_list (pv 7) (po_some (pe_op op_sub (pe_len B rfl (pv 7)) (pv 10))) po_none) pa_nil)))
            (pss_cons (ps_set (i := 7) nd rfl (Or.inl rfl) (pe_slice sl_list (pv 7) po_none (po_some (pe_op op_sub (pe_len B rfl (pv 7)) (pv 10)))))
            (pss_one (ps_expr (pe_app (pv 7) (pe_tup (pa_cons (pv 9) (pa_cons (pv 13) pa_nil))))))))))))))
      (pss_one (ps_ret (pe_ix ix_list (pv 7) pe_int (fun _ _ => rfl)))))))))))), ?_⟩
    obtain ⟨r0, hr0⟩ : ∃ r0, G[0]? = some r0 := by
      cases hG0 : G with
      | nil => exact absurd hG0 S.g0
      | cons r0 G' => exact ⟨r0, rfl⟩
    have hGv := grv_ok S hL hV
    have htopV : topF G row ∈ VV := by
      unfold manyT at hn
      split at hn
      · assumption
      · omega
    have hn' : n < cnt G (Wf G row L) (topF G row) := by
      unfold manyT at hn
      rw [if_pos htopV] at hn
      exact hn
    have htopS : topF G row ∈ sortF VV := mem_sortF.mpr htopV
    refine ⟨_, rfl, _, rfl, a, ra, G, row, rfl, hG, hrow, S, fun H1 p L' V' s1 hp hL' hV' hGr => ?_⟩
    have eL : L' = L := hL'.uniq hL
    subst eL
    have eV : V' = VV := hV'.uniq hV
    subst eV
    refine ⟨_, rfl, _, rfl, a, p, G, sortF V', Wf G row L', rfl, hG.mono s1, hGr, hGv, fun R T => hbig G row L' V' R S hL hV T, fun H2 s2 hno => absurd hT (hno R), fun H2 d R2 s2 hT2 hC => ?_⟩
    refine ⟨_, rfl, _, rfl, ?_⟩
    rw [decide_eq_false (fun z => nomatch z)]
    refine iteF ?_
    have s02 := s1.trans s2
    obtain ⟨gvs, hgv, hGI⟩ := hG
    obtain ⟨b0, pa0, hb1, hb0, hpa0⟩ := getRl' hGI hr0
    obtain ⟨kvs, hd, hc1, hc2⟩ := hC
    refine ⟨_, rfl, a, gvs, _, _, rfl, rfl, SqL.of (s02 _ _ hgv), atI_nat (j := 0) hb1, b0, _, 0, _, rfl, rfl, SqT.of (s02 _ _ hb0), atI_nat (j := 0) rfl, _, rfl, ra, _, rfl, .inl (SqL.of (s02 _ _ hrow)), by show 3 ≤ sizeLine; decide, fun T hTn => ?_⟩
    rw [List.length_map]
    have s3 := same_new (o := .tup [.str r0.nm, .int 0, .int (row.length : Int)]) hTn
    have hTT : (upd H2 T (.tup [.str r0.nm, .int 0, .int (row.length : Int)])) T = some (.tup [.str r0.nm, .int 0, .int (row.length : Int)]) := upd_same
    generalize upd H2 T (.tup [.str r0.nm, .int 0, .int (row.length : Int)]) = H3 at *
    obtain ⟨o, hg, he⟩ := CntD.get (row := row) (L := L') (V := V') hr0 ⟨kvs, s3 _ _ hd, hc1, hc2⟩ hTT
    refine ⟨_, rfl, _, _, rfl, rfl, _, rfl, ?_⟩
    rw [decide_eq_false (show ¬ (n : Int) < 0 by omega)]
    refine iteF ⟨_, rfl, _, rfl, d, rfl, .inr ⟨kvs, .inl (s3 _ _ hd)⟩, _, rfl, o, hg, _, _, rfl, he, _, rfl, ?_⟩
    rw [decide_eq_false (show ¬ (manyT G row L' V' : Int) ≤ (n : Int) by omega)]
    refine iteF ?_
    have s13 : Same H1 H3 := s2.trans s3
    obtain ⟨vs0, hv0, hP0⟩ := hGr.mono s13
    obtain ⟨ps0, kv0, rfl, hPT, hkk, hkv⟩ := grvPT (K := K) hP0
    rw [show grvS G row L' V' = grvW (sortF V') (Wf G row L') from rfl] at hkk hkv
    rw [grvW_keys] at hkk
    refine ⟨_, rfl, p, ps0, kv0, rfl, SqL.of hv0, hPT, by rw [hkk]; exact keys_nd hGv.nd, fun pd hpd => ?_⟩
    have s4 := same_new (o := .dT kv0) hpd
    have hpd4 : (upd H3 pd (.dT kv0)) pd = some (.dT kv0) := upd_same
    generalize upd H3 pd (.dT kv0) = Hs at *
    refine ⟨by decide, fun pm0 hpm0 => ⟨_, rfl, _, rfl, by show 2 ≤ sizeLine; decide, fun T1 hT1 => ⟨by show 1 ≤ sizeLine; decide, fun pp hpp => ?_⟩⟩⟩
    have s5 := same_new (o := .lst []) hpm0
    have s6 := s5.trans (same_new (o := .tup [.ref T, .int (n : Int)]) hT1)
    have s7 := s6.trans (same_new (o := .lst [.ref T1]) hpp)
    have hm1 : pm0 ≠ T1 := ne_of_none (H := upd Hs pm0 (.lst [])) upd_same hT1
    have hm2 : pm0 ≠ pp := fun z => by
      subst z
      rw [upd_ne hm1, upd_same] at hpp
      cases hpp
    have hppS : Hs pp = none := s6.free hpp
    have hTp : T1 ≠ pp := ne_of_none (H := upd (upd Hs pm0 (.lst [])) T1 (.tup [.ref T, .int (n : Int)])) upd_same hpp
    have hTs : Hs T = some (.tup [.str (topF G row).1, vN (topF G row).2.1, vN (topF G row).2.2]) := by
      rw [topF_eq hr0]
      exact s4 _ _ hTT
    have sHs : Same H Hs := (s02.trans s3).trans s4
    have hds : Hs d = some (.dT kvs) := s4 _ _ (s3 _ _ hd)
    have hszt : szN (trN G (Wf G row L') (topF G row) n) ≤ 900000 := by
      refine hsz G row L' V' R S hL hV hT _ htopS _ ?_
      unfold trN
      rw [List.getElem?_eq_getElem hn']
      exact List.getElem_mem hn'
    have hbigR := hbig G row L' V' R S hL hV hT
    have hcnt := fun {g : Fct} (hg : g ∈ sortF V') => cnt_eq hGv hT hg
    have hexw := fun {g : Fct} (hg : g ∈ sortF V') {A B : List Way} {w : Way} {n : Nat} {ns : List Nat} => exT_way hGv hT hg (A := A) (B := B) (w := w) (n := n) (ns := ns)
    generalize hW : Wf G row L' = W at *
    generalize ht0 : trN G W (topF G row) n = t0 at *
    refine ⟨fun kk σ Hc => ∃ (pm : Addr) (ts : List Tk) (m : List Nd) (ms us : List V) (o9 o10 o11 o12 o13 : Option V), σ = [some (.ref a), some (.ref ra), some (.int (n : Int)), some (.ref p), some (.ref d), some (.ref T), some (.ref pd), some (.ref pm), some (.ref pp), o9, o10, o11, o12, o13] ∧ TWs Hs G (sortF V') W t0 pp kk pm ts m ms us Hc,
      ⟨szN t0, pm0, [.fct (topF G row) n], [], [], [.ref T1], none, none, none, none, none, rfl, ⟨s7, hpm0, hm2, by rw [upd_ne hm2, upd_ne hm1]; exact upd_same, .nil, upd_same, .cons (.tup (by rw [upd_ne hTp]; exact upd_same) (.cons (FctIs (s7 _ _ hTs)) (.cons (.int _) .nil))) .nil, by show [trN G W (topF G row) n] = _; rw [ht0], True.intro, fun g k hm => ?_, by show szN (trN G W (topF G row) n) + 0 = _; rw [ht0]; rfl, by simpa using hszt⟩⟩, ?_⟩
    · have e := List.mem_singleton.mp hm
      cases e
      exact ⟨htopS, hn'⟩
    rintro kk σ Hc ⟨pm, ts, m, ms, us, o9, o10, o11, o12, o13, rfl, I⟩
    obtain ⟨sc, hpmS, hne, hcm, hM, hcp, hU, hrun, hval, hok, hwt, hsm⟩ := I
    refine ⟨_, rfl, by decide, fun q hq => ⟨pp, q, us, rfl, rfl, SqL.of ((same_new hq) _ _ hcp), SqL.of upd_same, _, rfl, ?_⟩⟩
    have sq : Same Hc (upd Hc q (.lst [])) := same_new hq
    have lM := hM.length
    have lU := hU.length
    rw [List.length_map] at lM
    rw [List.length_map, List.length_reverse] at lU
    have hwl := wtT_len (G := G) (W := W) ts
    cases hemp : us.isEmpty with
    | true =>
      have eus : us = [] := List.isEmpty_iff.mp hemp
      have ets : ts = [] := by
        rw [eus] at lU
        exact List.eq_nil_of_length_eq_zero lU.symm
      subst ets
      have em : m = [t0] := hrun
      subst em
      obtain ⟨v, vs, rfl, hv, hvs⟩ := IsL.cons_inv hM
      refine iteF ⟨_, rfl, pm, _, 0, v, rfl, rfl, SqL.of (sq _ _ hcm), atI_nat (j := 0) rfl, k _ v (sHs.trans (sc.trans sq)) (hv.mono sq)⟩
    | false =>
      have hne2 : us ≠ [] := fun z => by rw [z] at hemp; cases hemp
      obtain ⟨v, tk, hlast, hgl, hgv2, hUd⟩ := popIs (hU.mono sq) hne2
      obtain ⟨ts', rfl⟩ := last_rev hgl
      rw [drop_rev] at hUd
      generalize hH5 : upd Hc q (.lst []) = H5 at *
      have h5p : H5 pp = some (.lst us) := sq _ _ hcp
      have t6 : TuS H5 (upd H5 pp (.lst us.dropLast)) := TuS.lst h5p
      have s6' : Same Hs (upd H5 pp (.lst us.dropLast)) := same_upd (sc.trans sq) hppS
      have h6p : (upd H5 pp (.lst us.dropLast)) pp = some (.lst us.dropLast) := upd_same
      have h6m : (upd H5 pp (.lst us.dropLast)) pm = some (.lst ms) := by rw [upd_ne hne]; exact sq _ _ hcm
      refine iteT ⟨fun σ' H' => ∃ m', m' < kk ∧ ∃ (pm : Addr) (ts : List Tk) (m : List Nd) (ms us : List V) (o9 o10 o11 o12 o13 : Option V), σ' = [some (.ref a), some (.ref ra), some (.int (n : Int)), some (.ref p), some (.ref d), some (.ref T), some (.ref pd), some (.ref pm), some (.ref pp), o9, o10, o11, o12, o13] ∧ TWs Hs G (sortF V') W t0 pp m' pm ts m ms us H', fun σ' H' h => h, ?_⟩
      refine ⟨_, rfl, .inl ⟨rfl, us, SqL.of h5p⟩, pp, us, _, rfl, rfl, h5p, hlast, ?_⟩
      have t06 : TuS Hc (upd H5 pp (.lst us.dropLast)) := (TuS.of sq).trans t6
      generalize hH6 : upd H5 pp (.lst us.dropLast) = H6 at *
      have hM6 := hM.monoT t06
      have hU6 := hUd.monoT t6
      have htk := hgv2.monoT t6
      have lud : us.dropLast.length = ts'.length := by rw [List.length_dropLast, lU, List.length_cons]; omega
      have hok' : ∀ g k, Tk.fct g k ∈ ts' → g ∈ sortF V' ∧ k < cnt G W g := fun g k hm => hok g k (List.mem_cons_of_mem _ hm)
      cases tk with
      | wrd s =>
        cases isTk htk with
        | wrd hT2 =>
          rename_i T2
          refine ⟨T2, _, rfl, SqT.of hT2, rfl, _, _, rfl, _, _, rfl, rfl, _, rfl, _, _, .type "str", _, true, rfl, .ty _, .base (.str s), kit_ty (by decide +kernel), _, rfl, ?_⟩
          refine iteT ⟨_, rfl, .inl ⟨rfl, _, SqL.of h6m⟩, _, rfl, pm, ms, _, rfl, rfl, h6m, small6 (by omega), ?_⟩
          have tL : TuS H6 (upd H6 pm (.lst (ms ++ [.str s]))) := TuS.lst h6m
          have hwt' : 1 + wtT G W ts' = kk := hwt
          refine ⟨wtT G W ts', by omega, pm, ts', m ++ [.wd s], _, us.dropLast, _, _, _, _, _, rfl, ⟨same_upd s6' hpmS, hpmS, hne, upd_same, ?_, by rw [upd_ne (Ne.symm hne)]; exact h6p, hU6.monoT tL, hrun, ?_, hok', rfl, ?_⟩⟩
          · rw [List.map_append]
            exact (hM6.monoT tL).append (.cons (.str s) .nil)
          · rw [List.length_append]
            exact hval
          · rw [List.length_append, List.length_singleton]
            omega
      | mk num len =>
        cases isTk htk with
        | mk hT2 =>
          rename_i T2
          have hval2 : len ≤ m.length ∧ Val (m.length - len + 1) ts' := hval
          have hlm : len ≤ ms.length := by omega
          have hwt' : 1 + wtT G W ts' = kk := hwt
          refine ⟨T2, _, rfl, SqT.of hT2, rfl, _, _, rfl, _, _, rfl, rfl, _, rfl, _, _, .type "int", _, false, rfl, .ty _, .base (.int _), kit_ty (by decide +kernel), _, rfl, ?_⟩
          refine iteF ⟨_, rfl, _, _, .type "int", _, false, rfl, .ty _, .base (.int _), kit_ty (by decide +kernel), _, rfl, ?_⟩
          refine iteF ⟨_, rfl, _, rfl, pm, ms, rfl, .inl (SqL.of h6m), _, rfl, _, _, rfl, rfl, _, rfl, pm, ms, rfl, SqL.of h6m, fun l hl => ⟨l, _, rfl, .inl ⟨SqL.of upd_same, fun l2 hl2 => ?_⟩⟩⟩
          rw [cutV_from hlm] at hl2 ⊢
          have s7' := same_new (o := .lst (ms.drop (ms.length - len))) hl
          have s8' := s7'.trans (same_new (o := .tup (ms.drop (ms.length - len))) hl2)
          have hl2t : (upd (upd H6 l (.lst (ms.drop (ms.length - len)))) l2 (.tup (ms.drop (ms.length - len)))) l2 = some (.tup (ms.drop (ms.length - len))) := upd_same
          generalize upd (upd H6 l (.lst (ms.drop (ms.length - len)))) l2 (.tup (ms.drop (ms.length - len))) = H8 at *
          have h8m := s8' _ _ h6m
          refine ⟨_, rfl, _, rfl, pm, ms, rfl, .inl (SqL.of h8m), _, rfl, _, _, rfl, rfl, _, rfl, pm, ms, rfl, SqL.of h8m, fun pm2 hpm2 => ?_⟩
          rw [cutV_to hlm]
          have s9' := same_new (o := .lst (ms.take (ms.length - len))) hpm2
          have h9m : (upd H8 pm2 (.lst (ms.take (ms.length - len)))) pm2 = some (.lst (ms.take (ms.length - len))) := upd_same
          have hpm2S : Hs pm2 = none := (s6'.trans s8').free hpm2
          have hpm2p : pm2 ≠ pp := fun z => by subst z; rw [s8' _ _ h6p] at hpm2; cases hpm2
          generalize upd H8 pm2 (.lst (ms.take (ms.length - len))) = H9 at *
          refine ⟨_, rfl, .inl ⟨rfl, _, SqL.of h9m⟩, _, rfl, _, rfl, by show 2 ≤ sizeLine; decide, fun T9 hT9 => ?_⟩
          have sT9 := same_new (o := .tup [.int (num : Int), .ref l2]) hT9
          have hT9m : T9 ≠ pm2 := fun z => by subst z; rw [h9m] at hT9; cases hT9
          have hTm := sT9 _ _ h9m
          have ltk : (ms.take (ms.length - len)).length = m.length - len := by rw [List.length_take]; omega
          have tA : TuS H6 (upd (upd H9 T9 (.tup [.int (num : Int), .ref l2])) pm2 (.lst (ms.take (ms.length - len) ++ [.ref T9]))) := (TuS.of ((s8'.trans s9').trans sT9)).trans (TuS.lst hTm)
          refine ⟨pm2, _, _, rfl, rfl, hTm, small6 (by omega), ?_⟩
          refine ⟨wtT G W ts', by omega, pm2, ts', m.take (m.length - len) ++ [.nd num (m.drop (m.length - len))], _, us.dropLast, _, _, _, _, _, rfl, ⟨same_upd (((s6'.trans s8').trans s9').trans sT9) hpm2S, hpm2S, hpm2p, upd_same, ?_, ?_, hU6.monoT tA, hrun, ?_, hok', rfl, ?_⟩⟩
          · rw [List.map_append, List.map_take, ← lM]
            refine ((hM6.monoT tA).take _).append (.cons ?_ .nil)
            have hdr := (hM6.monoT tA).drop (ms.length - len)
            rw [← List.map_drop] at hdr
            show Is _ (.ref T9) (eNd (.nd num (m.drop (ms.length - len))))
            unfold eNd
            rw [eNds_map]
            refine .tup (by rw [upd_ne hT9m]; exact upd_same) (.cons (.int _) (.cons (.tup (xs := ms.drop (ms.length - len)) ?_ hdr) .nil))
            exact (TuS.lst hTm) _ _ (sT9 _ _ (s9' _ _ hl2t))
          · rw [upd_ne (Ne.symm hpm2p)]
            exact sT9 _ _ (s9' _ _ (s8' _ _ h6p))
          · rw [List.length_append, List.length_take, List.length_singleton, show min (m.length - len) m.length = m.length - len by omega]
            exact hval2.2
          · rw [List.length_append, List.length_take, List.length_singleton]
            omega
      | fct g n' =>
        cases isTk htk with
        | fct hT2 hfa =>
          rename_i T2 fa
          obtain ⟨hgV, hgn⟩ := hok g n' List.mem_cons_self
          have hwt' : szN (trN G W g n') + wtT G W ts' = kk := hwt
          obtain ⟨wlg, hwv, hwl⟩ := grv_get hkk hkv hgV
          have s3s : Same H3 H6 := s4.trans s6'
          refine ⟨T2, _, rfl, SqT.of hT2, rfl, _, _, rfl, _, _, rfl, rfl, _, rfl, _, _, .type "tuple", _, false, rfl, .ty _, .base (.tup hfa), kit_ty (by decide +kernel), _, rfl, ?_⟩
          refine iteF ⟨_, rfl, _, _, .type "tuple", _, true, rfl, .ty _, .base (.tup hfa), kit_ty (by decide +kernel), _, rfl, ?_⟩
          refine iteT ⟨_, rfl, _, rfl, _, rfl, _, rfl, pd, .ref wlg, rfl, .inr ⟨kv0, fKey g, fa, .inl (s6' _ _ hpd4), rfl, hfa, hwv.symm⟩, _, rfl, a, d, wlg, G, W g, n', cnt G W, kvs, rfl, ⟨gvs, (sHs.trans s6') _ _ hgv, hGI.mono (sHs.trans s6')⟩, s6' _ _ hds, hwl.mono s3s,
            fun w2 hw2 => ⟨hGv.wok g hgV w2 hw2, fun k hk => ⟨hc1 k (hGv.cl g hgV w2 hw2 k hk), hbigR k (hGv.cl g hgV w2 hw2 k hk)⟩⟩, hGv.pl, by rw [← hcnt hgV]; exact hgn, fun H7 q7 wa nl A w' Bw ns s7' hq7 hwI hnl hWg hnn hdg => ?_⟩
          have hwm : w' ∈ W g := by rw [hWg]; simp
          obtain ⟨r, hr1, hz, htr⟩ := hexw hgV hWg hnn hdg
          have hwo := hGv.wok g hgV w' hwm
          have epw : partsW G w' = partsF r.ps w'.2 := by unfold partsW; rw [hr1]
          refine ⟨q7, _, rfl, SqT.of hq7, rfl, _, _, rfl, _, _, rfl, rfl, ?_⟩
          have h7p := s7' _ _ h6p
          have sH7 := (sHs.trans s6').trans s7'
          refine ⟨_, rfl, .inl ⟨rfl, _, SqL.of h7p⟩, _, rfl, _, rfl, _, rfl, a, wa, nl, G, w', ns, rfl, ⟨gvs, sH7 _ _ hgv, hGI.mono sH7⟩, hwI, hwo, hnl, hdg.len, hGv.pl, fun H8 q8 s8' hq8 hTL => ?_⟩
          obtain ⟨tvs, htvs, hTI⟩ := hTL
          have lT := hTI.length
          rw [List.length_map] at lT
          refine ⟨q8, tvs, rfl, SqL.of htvs, fun q9 hq9 => ?_⟩
          have s9' := same_new (o := .lst tvs.reverse) hq9
          have h9q : (upd H8 q9 (.lst tvs.reverse)) q9 = some (.lst tvs.reverse) := upd_same
          generalize upd H8 q9 (.lst tvs.reverse) = H9 at *
          have s69 := (s7'.trans s8').trans s9'
          have h9p := s69 _ _ h6p
          have hplain := tFold_plain r.ps [] ((partsF r.ps w'.2).zip ns) rfl hz
          have etw : tasksW G w' ns = (tFold r.ps ((partsF r.ps w'.2).zip ns)).1 ++ [.mk w'.1 r.ps.length] := by unfold tasksW; rw [hr1]
          have hwf : wtT G W (tasksW G w' ns) = szs (chN G W r.ps ((partsF r.ps w'.2).zip ns)) + 1 := by
            rw [etw, wtT_append]
            unfold tFold
            rw [wtT_fold _ _ _ hz]
            simp [wtT]
          have hszg : szN (trN G W g n') = 2 + szs (chN G W r.ps ((partsF r.ps w'.2).zip ns)) := by
            rw [htr]
            simp [szN]
          have lTl : (tasksW G w' ns).length ≤ szs (chN G W r.ps ((partsF r.ps w'.2).zip ns)) + 1 := by
            rw [← hwf]
            exact wtT_len _
          have tZ : TuS H9 (upd H9 pp (.lst (us.dropLast ++ tvs.reverse))) := TuS.lst h9p
          have t69 := (TuS.of s69).trans tZ
          have hwl' := wtT_len (G := G) (W := W) ts'
          refine ⟨pp, q9, us.dropLast, tvs.reverse, rfl, rfl, h9p, h9q, by rw [List.length_reverse]; exact small6' (by omega), ?_⟩
          refine ⟨wtT G W (tasksW G w' ns ++ ts'), by rw [wtT_append, hwf]; omega, pm, tasksW G w' ns ++ ts', m, ms, us.dropLast ++ tvs.reverse, _, _, _, _, _, rfl, ⟨same_upd (s6'.trans s69) hppS, hpmS, hne, by rw [upd_ne hne]; exact s69 _ _ h6m, hM6.monoT t69, upd_same, ?_, ?_, ?_, ?_, rfl, ?_⟩⟩
          · rw [List.reverse_append, List.map_append]
            refine Eq.mp (congrArg (fun z => IsL _ _ (_ ++ z)) List.map_reverse.symm) ?_
            exact (hU6.monoT t69).append ((hTI.monoT ((TuS.of s9').trans tZ)).reverse)
          · rw [runT_append, runT_way hr1 hz, ← htr]
            exact hrun
          · rw [etw, List.append_assoc]
            unfold tFold
            rw [Val_append _ _ _ hplain.1, hplain.2.1]
            show r.ps.length ≤ m.length + (0 + r.ps.length) ∧ Val (m.length + (0 + r.ps.length) - r.ps.length + 1) ts'
            refine ⟨by omega, ?_⟩
            rw [show m.length + (0 + r.ps.length) - r.ps.length + 1 = m.length + 1 by omega]
            exact hval
          · intro g2 k2 hm
            rcases List.mem_append.mp hm with hm | hm
            · rw [etw] at hm
              rcases List.mem_append.mp hm with hm | hm
              · rcases hplain.2.2 _ hm with z | ⟨s, _, _, z⟩ | ⟨z, hz1, hz2⟩
                · cases z
                · cases z
                · cases hz2
                  rw [epw] at hdg
                  obtain ⟨h1, h2⟩ := hdg.zip z hz1
                  exact ⟨hGv.cl g hgV w' hwm _ (by rw [epw]; exact h1), h2⟩
              · have := List.mem_singleton.mp hm
                cases this
            · exact hok' g2 k2 hm
          · rw [wtT_append, hwf]
            omega
end
end Rg
namespace Rg
open PySem PySem.Spec L2
mutual
def knotsN : Nd → Nat → List (Nd × Nat)
  | .wd _, _ => []
  | .nd n cs, d => (.nd n cs, d) :: knotsS cs (d + 1)
def knotsS : List Nd → Nat → List (Nd × Nat)
  | [], _ => []
  | t :: ts, d => knotsN t d ++ knotsS ts d
end
mutual
def wordsN : Nd → List Str
  | .wd s => [s]
  | .nd _ cs => wordsS cs
def wordsS : List Nd → List Str
  | [] => []
  | t :: ts => wordsN t ++ wordsS ts
end
mutual
def preN : Nd → List Nat
  | .wd _ => []
  | .nd n cs => n :: preS cs
def preS : List Nd → List Nat
  | [] => []
  | t :: ts => preN t ++ preS ts
end
theorem wordsS_append : ∀ a b : List Nd, wordsS (a ++ b) = wordsS a ++ wordsS b
  | [], b => by simp [wordsS]
  | t :: a, b => by
    rw [List.cons_append]
    simp only [wordsS]
    rw [wordsS_append a b, List.append_assoc]
theorem preS_append : ∀ a b : List Nd, preS (a ++ b) = preS a ++ preS b
  | [], b => by simp [preS]
  | t :: a, b => by
    rw [List.cons_append]
    simp only [preS]
    rw [preS_append a b, List.append_assoc]
mutual
theorem wordsN_sz : ∀ t : Nd, (wordsN t).length ≤ szN t
  | .wd s => by simp [wordsN, szN]
  | .nd n cs => by have := wordsS_sz cs; simp only [wordsN, szN]; omega
theorem wordsS_sz : ∀ ts : List Nd, (wordsS ts).length ≤ szs ts
  | [] => by simp [wordsS, szs]
  | t :: ts => by have := wordsN_sz t; have := wordsS_sz ts; simp only [wordsS, szs, List.length_append]; omega
end
mutual
theorem preN_sz : ∀ t : Nd, (preN t).length ≤ szN t
  | .wd s => by simp [preN, szN]
  | .nd n cs => by have := preS_sz cs; simp only [preN, szN, List.length_cons]; omega
theorem preS_sz : ∀ ts : List Nd, (preS ts).length ≤ szs ts
  | [] => by simp [preS, szs]
  | t :: ts => by have := preN_sz t; have := preS_sz ts; simp only [preS, szs, List.length_append]; omega
end
theorem szs_len : ∀ ts : List Nd, ts.length ≤ szs ts
  | [] => Nat.zero_le _
  | t :: ts => by have := szs_len ts; have := szN_pos t; simp only [szs, List.length_cons]; omega
/-- a tree's value -/
theorem isNd {H : Hp} {v : V} {n : Nat} {cs : List Nd} (h : Is H v (eNd (.nd n cs))) : ∃ a ca xs, v = .ref a ∧ H a = some (.tup [vN n, .ref ca]) ∧ H ca = some (.tup xs) ∧ IsL H xs (cs.map eNd) := by
  unfold eNd at h
  rw [eNds_map] at h
  obtain ⟨a, ys, rfl, ha, hx⟩ := h.tup_inv
  obtain ⟨v1, r1, rfl, b1, hx⟩ := hx.cons_inv
  obtain ⟨v2, r2, rfl, b2, hx⟩ := hx.cons_inv
  rw [hx.nil_inv, b1.int_inv] at ha
  obtain ⟨ca, xs, rfl, hc, hy⟩ := b2.tup_inv
  exact ⟨a, ca, xs, rfl, ha, hc, hy⟩
theorem isWd {H : Hp} {v : V} {s : Str} (h : Is H v (eNd (.wd s))) : v = .str s := by
  unfold eNd at h
  exact h.str_inv
section
variable {P : Program} {w : World} {K : PySem.W.Frag} {mg : Str → Option Value} {base : Heap} {f : Addr} {fd : FuncData}
def sp_row_of : Sp := fun vs H Q _ => ∃ (v : V) (t : Nd), vs = [v] ∧ Is H v (eNd t) ∧ szN t ≤ 900000 ∧ ∀ H' p, Same H H' → H p = none → WL H' p (wordsN t) → Q (.ref p) H'
theorem ok_row_of (F : Fun K "row_of" "row_of" st_row_of f fd) (B : Bl mg) : FnOk P w K mg base CX0 1 f fd ["tree"] sp_row_of := by
  refine F.ok sc_row_of (fun vs H Q E h => ?_) (fun cdv A outer s H vs Q E hr h => ?_)
  · obtain ⟨v, t, rfl, _⟩ := h
    rfl
  · obtain ⟨v, t, rfl, hv, hsz, k⟩ := h
    have nd := sc_row_of.nd
    refine ⟨_, pss_cons (ps_set (i := 1) nd rfl (Or.inl rfl) (pe_lst pa_nil))
      (pss_cons (ps_set (i := 2) nd rfl (Or.inl rfl) (pe_lst (pa_cons (pv 0) pa_nil)))
      (pss_cons (ps_while PassesOwn.never (pt_cmpR (op_neE hr.units0) (pv 2) (pe_lst pa_nil) (nomark _))
        (pss_cons (ps_set (i := 3) nd rfl (Or.inl rfl) (pe_pop (pv 2)))
        (pss_one (ps_if (pt_val (pe_callB call_isi rfl B.isinstance PyProof.Rows.boot_isinstance (pa_cons (pv 3) (pa_cons (pe_bltn (v := .ty "tuple") rfl B.tuple PyProof.Rows.boot_tuple rfl) pa_nil)) (by decide) (by decide)))
          (pss_one (ps_expr (pe_ext (pv 2) (pe_lstRevT rfl rfl B.list rfl B.reversed (pe_ix ix_tup (pv 3) pe_int (fun _ _ => rfl))))))
          (pss_one (ps_expr (pe_app (pv 1) (pv 3))))))))
      (pss_one (ps_ret (pv 1))))), ?_⟩
    refine ⟨by decide, fun pf hpf => ⟨_, rfl, by show 1 ≤ sizeLine; decide, fun pp hpp => ?_⟩⟩
    have s1 := same_new (o := .lst []) hpf
    have s2 := s1.trans (same_new (o := .lst [v]) hpp)
    have hfp : pf ≠ pp := ne_of_none (H := upd H pf (.lst [])) upd_same hpp
    have hppH : H pp = none := s1.free hpp
    refine ⟨fun kk σ Hc => ∃ (st : List Nd) (ws : List Str) (us : List V) (o3 : Option V), σ = [some v, some (.ref pf), some (.ref pp), o3] ∧ Same H Hc ∧ WL Hc pf ws ∧ Hc pp = some (.lst us) ∧ IsL Hc us (st.reverse.map eNd) ∧ ws ++ wordsS st = wordsN t ∧ szs st = kk ∧ kk ≤ 900000,
      ⟨szN t, [t], [], [v], none, rfl, s2, by unfold WL; rw [upd_ne hfp]; exact upd_same, upd_same, .cons (hv.mono s2) .nil, by simp [wordsS], by simp [szs], hsz⟩, ?_⟩
    rintro kk σ Hc ⟨st, ws, us, o3, rfl, sc, hws, hcp, hU, hw, hk, hkk⟩
    refine ⟨_, rfl, by decide, fun q hq => ⟨pp, q, us, rfl, rfl, SqL.of ((same_new hq) _ _ hcp), SqL.of upd_same, _, rfl, ?_⟩⟩
    have sq : Same Hc (upd Hc q (.lst [])) := same_new hq
    have lU := hU.length
    rw [List.length_map, List.length_reverse] at lU
    cases hemp : us.isEmpty with
    | true =>
      have eus : us = [] := List.isEmpty_iff.mp hemp
      have est : st = [] := by
        rw [eus] at lU
        exact List.eq_nil_of_length_eq_zero lU.symm
      subst est
      have ew : ws = wordsN t := by simpa [wordsS] using hw
      refine iteF ⟨_, rfl, k _ pf (sc.trans sq) hpf ?_⟩
      rw [← ew]
      exact sq _ _ hws
    | false =>
      have hne2 : us ≠ [] := fun z => by rw [z] at hemp; cases hemp
      obtain ⟨x, c, hlast, hgl, hx, hUd⟩ := popIs (hU.mono sq) hne2
      obtain ⟨st', rfl⟩ := last_rev hgl
      rw [drop_rev] at hUd
      generalize hH5 : upd Hc q (.lst []) = H5 at *
      have h5p : H5 pp = some (.lst us) := sq _ _ hcp
      have t6 : TuS H5 (upd H5 pp (.lst us.dropLast)) := TuS.lst h5p
      have s6 : Same H (upd H5 pp (.lst us.dropLast)) := same_upd (sc.trans sq) hppH
      have h6p : (upd H5 pp (.lst us.dropLast)) pp = some (.lst us.dropLast) := upd_same
      have h6f : (upd H5 pp (.lst us.dropLast)) pf = some (.lst (ws.map V.str)) := by rw [upd_ne hfp]; exact sq _ _ hws
      refine iteT ⟨fun σ' H' => ∃ m', m' < kk ∧ ∃ (st : List Nd) (ws : List Str) (us : List V) (o3 : Option V), σ' = [some v, some (.ref pf), some (.ref pp), o3] ∧ Same H H' ∧ WL H' pf ws ∧ H' pp = some (.lst us) ∧ IsL H' us (st.reverse.map eNd) ∧ ws ++ wordsS st = wordsN t ∧ szs st = m' ∧ m' ≤ 900000, fun σ' H' h => h, ?_⟩
      refine ⟨_, rfl, .inl ⟨rfl, us, SqL.of h5p⟩, pp, us, _, rfl, rfl, h5p, hlast, ?_⟩
      generalize hH6 : upd H5 pp (.lst us.dropLast) = H6 at *
      have hU6 := hUd.monoT t6
      have hx6 := hx.monoT t6
      have lud : us.dropLast.length = st'.length := by rw [List.length_dropLast, lU, List.length_cons]; omega
      have hk' : szN c + szs st' = kk := hk
      have hst' := szs_len st'
      have hwl : ws.length ≤ 900000 := by
        have h1 := congrArg List.length hw
        rw [List.length_append] at h1
        have h2 := wordsN_sz t
        omega
      cases c with
      | wd s =>
        have ex := isWd hx6
        subst ex
        refine ⟨_, rfl, _, _, .type "str", _, false, rfl, .ty _, .base (.str s), kit_ty (by decide +kernel), _, rfl, ?_⟩
        refine iteF ⟨_, rfl, .inl ⟨rfl, _, SqL.of h6f⟩, _, rfl, pf, _, _, rfl, rfl, h6f, small6 (by rw [List.length_map]; omega), ?_⟩
        have tL : TuS H6 (upd H6 pf (.lst (ws.map V.str ++ [.str s]))) := TuS.lst h6f
        have hs1 : 1 + szs st' = kk := by simpa [szN] using hk'
        refine ⟨szs st', by omega, st', ws ++ [s], us.dropLast, _, rfl, same_upd s6 hpf, ?_, by rw [upd_ne (Ne.symm hfp)]; exact h6p, hU6.monoT tL, ?_, rfl, by omega⟩
        · unfold WL
          rw [upd_same, List.map_append]
          rfl
        · rw [List.append_assoc]
          simpa [wordsS, wordsN] using hw
      | nd n cs =>
        obtain ⟨a, ca, xs, rfl, ha, hca, hxs⟩ := isNd hx6
        refine ⟨_, rfl, _, _, .type "tuple", _, true, rfl, .ty _, .base (.tup ha), kit_ty (by decide +kernel), _, rfl, ?_⟩
        refine iteT ⟨_, rfl, .inl ⟨rfl, _, SqL.of h6p⟩, _, rfl, a, _, 1, _, rfl, rfl, SqT.of ha, atI_nat (j := 1) rfl, ca, xs, rfl, SqT.of hca, fun q9 hq9 => ?_⟩
        have s9 := same_new (o := .lst xs.reverse) hq9
        have h9q : (upd H6 q9 (.lst xs.reverse)) q9 = some (.lst xs.reverse) := upd_same
        generalize upd H6 q9 (.lst xs.reverse) = H9 at *
        have h9p := s9 _ _ h6p
        have hs2 : 2 + szs cs + szs st' = kk := by simpa [szN] using hk'
        have lxs := hxs.length
        rw [List.length_map] at lxs
        have hcs := szs_len cs
        have tZ : TuS H9 (upd H9 pp (.lst (us.dropLast ++ xs.reverse))) := TuS.lst h9p
        have t69 := (TuS.of s9).trans tZ
        refine ⟨pp, q9, _, _, rfl, rfl, h9p, h9q, by rw [List.length_reverse]; exact small6' (by omega), ?_⟩
        refine ⟨szs (cs ++ st'), by rw [szs_append]; omega, cs ++ st', ws, _, _, rfl, same_upd (s6.trans s9) hppH, ?_, upd_same, ?_, ?_, rfl, by rw [szs_append]; omega⟩
        · unfold WL
          rw [upd_ne hfp]
          exact s9 _ _ h6f
        · rw [List.reverse_append, List.map_append]
          refine Eq.mp (congrArg (fun z => IsL _ _ (_ ++ z)) List.map_reverse.symm) ?_
          exact (hU6.monoT t69).append (hxs.monoT t69).reverse
        · rw [wordsS_append]
          simpa [wordsS, wordsN] using hw
def sp_law_numbers : Sp := fun vs H Q _ => ∃ (v : V) (t : Nd), vs = [v] ∧ Is H v (eNd t) ∧ szN t ≤ 900000 ∧ ∀ H' p, Same H H' → H p = none → NL H' p (preN t) → Q (.ref p) H'
theorem ok_law_numbers (F : Fun K "_law_numbers" "_law_numbers" st_law_numbers f fd) (B : Bl mg) : FnOk P w K mg base CX0 1 f fd ["tree"] sp_law_numbers := by
  refine F.ok sc_law_numbers (fun vs H Q E h => ?_) (fun cdv A outer s H vs Q E hr h => ?_)
  · obtain ⟨v, t, rfl, _⟩ := h
    rfl
  · obtain ⟨v, t, rfl, hv, hsz, k⟩ := h
    have nd := sc_law_numbers.nd
    refine ⟨_, pss_cons (ps_set (i := 1) nd rfl (Or.inl rfl) (pe_lst pa_nil))
      (pss_cons (ps_set (i := 2) nd rfl (Or.inl rfl) (pe_lst (pa_cons (pv 0) pa_nil)))
      (pss_cons (ps_while PassesOwn.never (pt_cmpR (op_neE hr.units0) (pv 2) (pe_lst pa_nil) (nomark _))
        (pss_cons (ps_set (i := 3) nd rfl (Or.inl rfl) (pe_pop (pv 2)))
        (pss_one (ps_if (pt_val (pe_callB call_isi rfl B.isinstance PyProof.Rows.boot_isinstance (pa_cons (pv 3) (pa_cons (pe_bltn (v := .ty "tuple") rfl B.tuple PyProof.Rows.boot_tuple rfl) pa_nil)) (by decide) (by decide)))
          (pss_cons (ps_expr (pe_app (pv 1) (pe_ix ix_tup (pv 3) pe_int (fun _ _ => rfl))))
          (pss_one (ps_set (i := 2) nd rfl (Or.inl rfl) (pe_op op_cat (pv 2) (pe_lstRevT rfl rfl B.list rfl B.reversed (pe_ix ix_tup (pv 3) pe_int (fun _ _ => rfl)))))))
          pss_nil))))
      (pss_one (ps_ret (pv 1))))), ?_⟩
    refine ⟨by decide, fun pf hpf => ⟨_, rfl, by show 1 ≤ sizeLine; decide, fun pp0 hpp0 => ?_⟩⟩
    have s1 := same_new (o := .lst []) hpf
    have s2 := s1.trans (same_new (o := .lst [v]) hpp0)
    have hfp0 : pf ≠ pp0 := ne_of_none (H := upd H pf (.lst [])) upd_same hpp0
    have hppH0 : H pp0 = none := s1.free hpp0
    refine ⟨fun kk σ Hc => ∃ (pp : Addr) (st : List Nd) (ws : List Nat) (us : List V) (o3 : Option V), σ = [some v, some (.ref pf), some (.ref pp), o3] ∧ Same H Hc ∧ pf ≠ pp ∧ H pp = none ∧ NL Hc pf ws ∧ Hc pp = some (.lst us) ∧ IsL Hc us (st.reverse.map eNd) ∧ ws ++ preS st = preN t ∧ szs st = kk ∧ kk ≤ 900000,
      ⟨szN t, pp0, [t], [], [v], none, rfl, s2, hfp0, hppH0, by unfold NL; rw [upd_ne hfp0]; exact upd_same, upd_same, .cons (hv.mono s2) .nil, by simp [preS], by simp [szs], hsz⟩, ?_⟩
    rintro kk σ Hc ⟨pp, st, ws, us, o3, rfl, sc, hfp, hppH, hws, hcp, hU, hw, hk, hkk⟩
    refine ⟨_, rfl, by decide, fun q hq => ⟨pp, q, us, rfl, rfl, SqL.of ((same_new hq) _ _ hcp), SqL.of upd_same, _, rfl, ?_⟩⟩
    have sq : Same Hc (upd Hc q (.lst [])) := same_new hq
    have lU := hU.length
    rw [List.length_map, List.length_reverse] at lU
    cases hemp : us.isEmpty with
    | true =>
      have eus : us = [] := List.isEmpty_iff.mp hemp
      have est : st = [] := by
        rw [eus] at lU
        exact List.eq_nil_of_length_eq_zero lU.symm
      subst est
      have ew : ws = preN t := by simpa [preS] using hw
      refine iteF ⟨_, rfl, k _ pf (sc.trans sq) hpf ?_⟩
      rw [← ew]
      exact sq _ _ hws
    | false =>
      have hne2 : us ≠ [] := fun z => by rw [z] at hemp; cases hemp
      obtain ⟨x, c, hlast, hgl, hx, hUd⟩ := popIs (hU.mono sq) hne2
      obtain ⟨st', rfl⟩ := last_rev hgl
      rw [drop_rev] at hUd
      generalize hH5 : upd Hc q (.lst []) = H5 at *
      have h5p : H5 pp = some (.lst us) := sq _ _ hcp
      have t6 : TuS H5 (upd H5 pp (.lst us.dropLast)) := TuS.lst h5p
      have s6 : Same H (upd H5 pp (.lst us.dropLast)) := same_upd (sc.trans sq) hppH
      have h6p : (upd H5 pp (.lst us.dropLast)) pp = some (.lst us.dropLast) := upd_same
      have h6f : (upd H5 pp (.lst us.dropLast)) pf = some (.lst (ws.map vN)) := by rw [upd_ne hfp]; exact sq _ _ hws
      refine iteT ⟨fun σ' H' => ∃ m', m' < kk ∧ ∃ (pp : Addr) (st : List Nd) (ws : List Nat) (us : List V) (o3 : Option V), σ' = [some v, some (.ref pf), some (.ref pp), o3] ∧ Same H H' ∧ pf ≠ pp ∧ H pp = none ∧ NL H' pf ws ∧ H' pp = some (.lst us) ∧ IsL H' us (st.reverse.map eNd) ∧ ws ++ preS st = preN t ∧ szs st = m' ∧ m' ≤ 900000, fun σ' H' h => h, ?_⟩
      refine ⟨_, rfl, .inl ⟨rfl, us, SqL.of h5p⟩, pp, us, _, rfl, rfl, h5p, hlast, ?_⟩
      generalize hH6 : upd H5 pp (.lst us.dropLast) = H6 at *
      have hU6 := hUd.monoT t6
      have hx6 := hx.monoT t6
      have lud : us.dropLast.length = st'.length := by rw [List.length_dropLast, lU, List.length_cons]; omega
      have hk' : szN c + szs st' = kk := hk
      have hst' := szs_len st'
      have hwl : ws.length ≤ 900000 := by
        have h1 := congrArg List.length hw
        rw [List.length_append] at h1
        have h2 := preN_sz t
        omega
      cases c with
      | wd s =>
        have ex := isWd hx6
        subst ex
        have hs1 : 1 + szs st' = kk := by simpa [szN] using hk'
        refine ⟨_, rfl, _, _, .type "str", _, false, rfl, .ty _, .base (.str s), kit_ty (by decide +kernel), _, rfl, ?_⟩
        exact iteF ⟨szs st', by omega, pp, st', ws, us.dropLast, _, rfl, s6, hfp, hppH, h6f, h6p, hU6, by simpa [preS, preN] using hw, rfl, by omega⟩
      | nd n cs =>
        obtain ⟨a, ca, xs, rfl, ha, hca, hxs⟩ := isNd hx6
        refine ⟨_, rfl, _, _, .type "tuple", _, true, rfl, .ty _, .base (.tup ha), kit_ty (by decide +kernel), _, rfl, ?_⟩
        refine iteT ⟨_, rfl, .inl ⟨rfl, _, SqL.of h6f⟩, _, rfl, a, _, 0, _, rfl, rfl, SqT.of ha, atI_nat (j := 0) rfl, pf, _, _, rfl, rfl, h6f, small6 (by rw [List.length_map]; omega), ?_⟩
        have tF : TuS H6 (upd H6 pf (.lst (ws.map vN ++ [vN n]))) := TuS.lst h6f
        have s7 : Same H (upd H6 pf (.lst (ws.map vN ++ [vN n]))) := same_upd s6 hpf
        have h7f : (upd H6 pf (.lst (ws.map vN ++ [vN n]))) pf = some (.lst ((ws ++ [n]).map vN)) := by rw [upd_same, List.map_append]; rfl
        have h7p : (upd H6 pf (.lst (ws.map vN ++ [vN n]))) pp = some (.lst us.dropLast) := by rw [upd_ne (Ne.symm hfp)]; exact h6p
        generalize upd H6 pf (.lst (ws.map vN ++ [vN n])) = H7 at *
        refine ⟨_, rfl, _, rfl, a, _, 1, _, rfl, rfl, SqT.of (tF _ _ ha), atI_nat (j := 1) rfl, ca, xs, rfl, SqT.of (tF _ _ hca), fun q9 hq9 => ?_⟩
        have s9 := same_new (o := .lst xs.reverse) hq9
        have h9q : (upd H7 q9 (.lst xs.reverse)) q9 = some (.lst xs.reverse) := upd_same
        generalize upd H7 q9 (.lst xs.reverse) = H9 at *
        have h9p := s9 _ _ h7p
        have hs2 : 2 + szs cs + szs st' = kk := by simpa [szN] using hk'
        have lxs := hxs.length
        rw [List.length_map] at lxs
        have hcs := szs_len cs
        refine ⟨pp, q9, _, _, rfl, rfl, h9p, h9q, by rw [List.length_reverse]; exact small6' (by omega), fun p2 hp2 => ?_⟩
        have sp2 := same_new (o := .lst (us.dropLast ++ xs.reverse)) hp2
        have hp2f : pf ≠ p2 := ne_of_none (s9 _ _ h7f) hp2
        have tA := (tF.trans (TuS.of s9)).trans (TuS.of sp2)
        refine ⟨szs (cs ++ st'), by rw [szs_append]; omega, p2, cs ++ st', ws ++ [n], _, _, rfl, (s7.trans s9).trans sp2, hp2f, (s7.trans s9).free hp2, ?_, upd_same, ?_, ?_, rfl, by rw [szs_append]; omega⟩
        · exact sp2 _ _ (s9 _ _ h7f)
        · rw [List.reverse_append, List.map_append]
          refine Eq.mp (congrArg (fun z => IsL _ _ (_ ++ z)) List.map_reverse.symm) ?_
          exact (hU6.monoT tA).append (hxs.monoT tA).reverse
        · rw [preS_append]
          simpa [preS, preN] using hw
end
end Rg
namespace Rg
open PySem PySem.Spec L2
def isNdB : Nd → Bool
  | .nd _ _ => true
  | .wd _ => false
def eKn (x : Nd × Nat) : PyData := .tuple [eNd x.1, .int (x.2 : Int)]
def szL (st : List (Nd × Nat)) : Nat := (st.map fun x => szN x.1).sum
theorem knotsS_flat (d : Nat) : ∀ cs : List Nd, knotsS cs d = ((cs.filter isNdB).map fun c => (c, d)).flatMap fun x => knotsN x.1 x.2
  | [] => by simp [knotsS]
  | .wd s :: cs => by
    simp only [knotsS, knotsN, List.nil_append]
    rw [knotsS_flat d cs, List.filter_cons_of_neg (by simp [isNdB])]
  | .nd n c :: cs => by
    simp only [knotsS]
    rw [knotsS_flat d cs, List.filter_cons_of_pos (by simp [isNdB]), List.map_cons, List.flatMap_cons]
theorem szL_kids (d : Nat) : ∀ cs : List Nd, szL ((cs.filter isNdB).map fun c => (c, d)) ≤ szs cs
  | [] => by simp [szL]
  | .wd s :: cs => by
    have := szL_kids d cs
    rw [List.filter_cons_of_neg (by simp [isNdB])]
    simp only [szs]
    omega
  | .nd n c :: cs => by
    have := szL_kids d cs
    rw [List.filter_cons_of_pos (by simp [isNdB])]
    unfold szL at this ⊢
    simp only [szs, List.map_cons, List.sum_cons]
    omega
theorem szL_append (a b : List (Nd × Nat)) : szL (a ++ b) = szL a + szL b := by
  unfold szL
  rw [List.map_append, List.sum_append]
theorem szL_len : ∀ st : List (Nd × Nat), st.length ≤ szL st
  | [] => Nat.zero_le _
  | x :: st => by
    have := szL_len st
    have := szN_pos x.1
    unfold szL at *
    rw [List.map_cons, List.sum_cons, List.length_cons]
    omega
mutual
theorem knotsN_sz : ∀ (t : Nd) (d : Nat), (knotsN t d).length ≤ szN t
  | .wd s, d => by simp [knotsN]
  | .nd n cs, d => by have := knotsS_sz cs (d + 1); simp only [knotsN, szN, List.length_cons]; omega
theorem knotsS_sz : ∀ (ts : List Nd) (d : Nat), (knotsS ts d).length ≤ szs ts
  | [], d => by simp [knotsS]
  | t :: ts, d => by have := knotsN_sz t d; have := knotsS_sz ts d; simp only [knotsS, szs, List.length_append]; omega
end
theorem isKn {H : Hp} {v : V} {x : Nd × Nat} (h : Is H v (eKn x)) : ∃ T u, v = .ref T ∧ H T = some (.tup [u, vN x.2]) ∧ Is H u (eNd x.1) := by
  obtain ⟨a, xs, rfl, ha, hx⟩ := h.tup_inv
  obtain ⟨v1, r1, rfl, b1, hx⟩ := hx.cons_inv
  obtain ⟨v2, r2, rfl, b2, hx⟩ := hx.cons_inv
  rw [hx.nil_inv, b2.int_inv] at ha
  exact ⟨a, v1, rfl, ha, b1⟩
section
variable {P : Program} {w : World} {K : PySem.W.Frag} {mg : Str → Option Value} {base : Heap} {f : Addr} {fd : FuncData}
def sp_all_knots : Sp := fun vs H Q _ => ∃ (v : V) (n : Nat) (cs : List Nd), vs = [v] ∧ Is H v (eNd (.nd n cs)) ∧ szN (.nd n cs) ≤ 900000 ∧ ∀ H' p, Same H H' → H p = none → LD H' p ((knotsN (.nd n cs) 1).map eKn) → Q (.ref p) H'
theorem ok_all_knots (F : Fun K "all_knots" "all_knots" st_all_knots f fd) (B : Bl mg) : FnOk P w K mg base CX0 1 f fd ["tree"] sp_all_knots := by
  refine F.ok sc_all_knots (fun vs H Q E h => ?_) (fun cdv A outer s H vs Q E hr h => ?_)
  · obtain ⟨v, n, cs, rfl, _⟩ := h
    rfl
  · obtain ⟨v, n0, cs0, rfl, hv, hsz, k⟩ := h
    have nd := sc_all_knots.nd
    refine ⟨_, pss_cons (ps_set (i := 1) nd rfl (Or.inl rfl) (pe_lst pa_nil))
      (pss_cons (ps_set (i := 2) nd rfl (Or.inl rfl) (pe_lst (pa_cons (pe_tup (pa_cons (pv 0) (pa_cons pe_int pa_nil))) pa_nil)))
      (pss_cons (ps_while PassesOwn.never (pt_cmpR (op_neE hr.units0) (pv 2) (pe_lst pa_nil) (nomark _))
        (pss_cons (ps_asg (pe_pop (pv 2)) (pg_tup rfl (pgs_cons (pg_name (i := 3) nd rfl (Or.inl rfl)) (pgs_cons (pg_name (i := 4) nd rfl (Or.inl rfl)) pgs_nil))))
        (pss_cons (ps_expr (pe_app (pv 1) (pe_tup (pa_cons (pv 3) (pa_cons (pv 4) pa_nil)))))
        (pss_one (ps_for PassesOwn.never rfl (_root_.RT.pi_revA rfl B.reversed (pe_ix ix_tup (pv 3) pe_int (fun _ _ => rfl))) (pg_name (i := 5) nd rfl (Or.inl rfl))
          (pss_one (ps_if (pt_val (pe_callB call_isi rfl B.isinstance PyProof.Rows.boot_isinstance (pa_cons (pv 5) (pa_cons (pe_bltn (v := .ty "tuple") rfl B.tuple PyProof.Rows.boot_tuple rfl) pa_nil)) (by decide) (by decide)))
            (pss_one (ps_expr (pe_app (pv 2) (pe_tup (pa_cons (pv 5) (pa_cons (pe_op op_add (pv 4) pe_int) pa_nil)))))) pss_nil)))))))
      (pss_one (ps_ret (pv 1))))), ?_⟩
    refine ⟨by decide, fun pf hpf => ⟨_, rfl, by show 2 ≤ sizeLine; decide, fun T0 hT0 => ⟨by show 1 ≤ sizeLine; decide, fun pp hpp => ?_⟩⟩⟩
    have s1 := same_new (o := .lst []) hpf
    have s2 := s1.trans (same_new (o := .tup [v, .int 1]) hT0)
    have s3 := s2.trans (same_new (o := .lst [.ref T0]) hpp)
    have hfT : pf ≠ T0 := ne_of_none (H := upd H pf (.lst [])) upd_same hT0
    have hfp : pf ≠ pp := fun z => by
      subst z
      rw [upd_ne hfT, upd_same] at hpp
      cases hpp
    have hTp : T0 ≠ pp := ne_of_none (H := upd (upd H pf (.lst [])) T0 (.tup [v, .int 1])) upd_same hpp
    have hppH : H pp = none := s2.free hpp
    refine ⟨fun kk σ Hc => ∃ (st : List (Nd × Nat)) (ks : List (Nd × Nat)) (fs us : List V) (o3 o4 o5 : Option V), σ = [some v, some (.ref pf), some (.ref pp), o3, o4, o5] ∧ Same H Hc ∧ Hc pf = some (.lst fs) ∧ IsL Hc fs (ks.map eKn) ∧ Hc pp = some (.lst us) ∧ IsL Hc us (st.reverse.map eKn) ∧
        (∀ x ∈ st, isNdB x.1 = true) ∧ ks ++ st.flatMap (fun x => knotsN x.1 x.2) = knotsN (.nd n0 cs0) 1 ∧ szL st = kk ∧ kk ≤ 900000,
      ⟨szN (.nd n0 cs0), [(.nd n0 cs0, 1)], [], [], [.ref T0], none, none, none, rfl, s3, by rw [upd_ne hfp, upd_ne hfT]; exact upd_same, .nil, upd_same, .cons (.tup (by rw [upd_ne hTp]; exact upd_same) (.cons (hv.mono s3) (.cons (.int 1) .nil))) .nil, fun x hx => by rw [List.mem_singleton.mp hx]; rfl, by simp, by simp [szL], hsz⟩, ?_⟩
    rintro kk σ Hc ⟨st, ks, fs, us, o3, o4, o5, rfl, sc, hcf, hFI, hcp, hU, hall, hw, hk, hkk⟩
    refine ⟨_, rfl, by decide, fun q hq => ⟨pp, q, us, rfl, rfl, SqL.of ((same_new hq) _ _ hcp), SqL.of upd_same, _, rfl, ?_⟩⟩
    have sq : Same Hc (upd Hc q (.lst [])) := same_new hq
    have lU := hU.length
    rw [List.length_map, List.length_reverse] at lU
    have lF := hFI.length
    rw [List.length_map] at lF
    cases hemp : us.isEmpty with
    | true =>
      have eus : us = [] := List.isEmpty_iff.mp hemp
      have est : st = [] := by
        rw [eus] at lU
        exact List.eq_nil_of_length_eq_zero lU.symm
      subst est
      have ew : ks = knotsN (.nd n0 cs0) 1 := by simpa using hw
      refine iteF ⟨_, rfl, k _ pf (sc.trans sq) hpf ?_⟩
      rw [← ew]
      exact ⟨fs, sq _ _ hcf, hFI.mono sq⟩
    | false =>
      have hne2 : us ≠ [] := fun z => by rw [z] at hemp; cases hemp
      obtain ⟨x, c, hlast, hgl, hx, hUd⟩ := popIs (hU.mono sq) hne2
      obtain ⟨st', rfl⟩ := last_rev hgl
      rw [drop_rev] at hUd
      generalize hH5 : upd Hc q (.lst []) = H5 at *
      have h5p : H5 pp = some (.lst us) := sq _ _ hcp
      have t6 : TuS H5 (upd H5 pp (.lst us.dropLast)) := TuS.lst h5p
      have s6 : Same H (upd H5 pp (.lst us.dropLast)) := same_upd (sc.trans sq) hppH
      have h6p : (upd H5 pp (.lst us.dropLast)) pp = some (.lst us.dropLast) := upd_same
      have h6f : (upd H5 pp (.lst us.dropLast)) pf = some (.lst fs) := by rw [upd_ne hfp]; exact sq _ _ hcf
      have t06 : TuS Hc (upd H5 pp (.lst us.dropLast)) := (TuS.of sq).trans t6
      refine iteT ⟨fun σ' H' => ∃ m', m' < kk ∧ ∃ (st : List (Nd × Nat)) (ks : List (Nd × Nat)) (fs us : List V) (o3 o4 o5 : Option V), σ' = [some v, some (.ref pf), some (.ref pp), o3, o4, o5] ∧ Same H H' ∧ H' pf = some (.lst fs) ∧ IsL H' fs (ks.map eKn) ∧ H' pp = some (.lst us) ∧ IsL H' us (st.reverse.map eKn) ∧
        (∀ x ∈ st, isNdB x.1 = true) ∧ ks ++ st.flatMap (fun x => knotsN x.1 x.2) = knotsN (.nd n0 cs0) 1 ∧ szL st = m' ∧ m' ≤ 900000, fun σ' H' h => h, ?_⟩
      refine ⟨_, rfl, .inl ⟨rfl, us, SqL.of h5p⟩, pp, us, _, rfl, rfl, h5p, hlast, ?_⟩
      generalize hH6 : upd H5 pp (.lst us.dropLast) = H6 at *
      have hU6 := hUd.monoT t6
      have hF6 := hFI.monoT t06
      have hx6 := hx.monoT t6
      have lud : us.dropLast.length = st'.length := by rw [List.length_dropLast, lU, List.length_cons]; omega
      have hk' : szN c.1 + szL st' = kk := by rw [← hk]; unfold szL; rw [List.map_cons, List.sum_cons]
      have hst' := szL_len st'
      have hksl : ks.length ≤ 900000 := by
        have h1 := congrArg List.length hw
        rw [List.length_append] at h1
        have h2 := knotsN_sz (.nd n0 cs0) 1
        omega
      obtain ⟨kn, dp⟩ := c
      have hknd := hall (kn, dp) List.mem_cons_self
      cases kn with
      | wd s => cases hknd
      | nd n cs =>
        obtain ⟨T, u, rfl, hT, hu⟩ := isKn hx6
        obtain ⟨a, ca, xs, rfl, ha, hca, hxs⟩ := isNd hu
        have lxs := hxs.length
        rw [List.length_map] at lxs
        refine ⟨T, _, rfl, SqT.of hT, rfl, _, _, rfl, _, _, rfl, rfl, ?_⟩
        refine ⟨_, rfl, .inl ⟨rfl, _, SqL.of h6f⟩, _, rfl, _, rfl, by show 2 ≤ sizeLine; decide, fun T2 hT2 => ?_⟩
        have s7 := same_new (o := .tup [.ref a, vN dp]) hT2
        have h7f := s7 _ _ h6f
        have hT2f : T2 ≠ pf := fun z => by subst z; rw [h6f] at hT2; cases hT2
        refine ⟨pf, fs, _, rfl, rfl, h7f, small6 (by omega), ?_⟩
        have t8 : TuS H6 (upd (upd H6 T2 (.tup [.ref a, vN dp])) pf (.lst (fs ++ [.ref T2]))) := (TuS.of s7).trans (TuS.lst h7f)
        have s8 : Same H (upd (upd H6 T2 (.tup [.ref a, vN dp])) pf (.lst (fs ++ [.ref T2]))) := same_upd (s6.trans s7) hpf
        have h8f : (upd (upd H6 T2 (.tup [.ref a, vN dp])) pf (.lst (fs ++ [.ref T2]))) pf = some (.lst (fs ++ [.ref T2])) := upd_same
        have h8p : (upd (upd H6 T2 (.tup [.ref a, vN dp])) pf (.lst (fs ++ [.ref T2]))) pp = some (.lst us.dropLast) := by rw [upd_ne (Ne.symm hfp)]; exact s7 _ _ h6p
        have h8T : (upd (upd H6 T2 (.tup [.ref a, vN dp])) pf (.lst (fs ++ [.ref T2]))) T2 = some (.tup [.ref a, vN dp]) := by rw [upd_ne hT2f]; exact upd_same
        generalize upd (upd H6 T2 (.tup [.ref a, vN dp])) pf (.lst (fs ++ [.ref T2])) = H8 at *
        have hF8 : IsL H8 (fs ++ [.ref T2]) ((ks ++ [(Nd.nd n cs, dp)]).map eKn) := by
          rw [List.map_append]
          exact (hF6.monoT t8).append (.cons (.tup h8T (.cons (hu.monoT t8) (.cons (.int _) .nil))) .nil)
        have hU8 := hU6.monoT t8
        have hca8 := t8 _ _ hca
        have hx8 := hxs.monoT t8
        have hszk : szN (.nd n cs) = 2 + szs cs := by simp [szN]
        have hszk' : 2 + szs cs + szL st' = kk := by rw [← hszk]; exact hk'
        have hbf : but H8 pp ca = some (.tup xs) := but_of hca8 h8p (fun z => nomatch z)
        have tb : TuS H8 (but H8 pp) := fun b xs e => but_of e h8p (fun z => nomatch z)
        have hxb := hx8.monoT tb
        have sHb : Same H (but H8 pp) := same_but s8 hppH
        have hbpf : but H8 pp pf = some (.lst (fs ++ [.ref T2])) := by rw [but_ne hfp]; exact h8f
        have hFb := hF8.monoT tb
        refine ⟨_, rfl, a, _, 1, _, rfl, rfl, SqT.of (t8 _ _ ha), atI_nat (j := 1) rfl, ca, xs, rfl, .inr ⟨SqT.of hca8, _root_.RT.for_ItvT (K := K) (a := ca) (xs := xs) (fun j σ Hx => ∃ (us2 : List V) (o5 : Option V), σ = [some v, some (.ref pf), some (.ref pp), some (.ref a), some (.int (dp : Int)), o5] ∧ Same (but H8 pp) Hx ∧
            Hx pp = some (.lst us2) ∧ IsL Hx us2 ((((cs.drop (cs.length - j)).filter isNdB).map (fun c => (c, dp + 1)) ++ st').reverse.map eKn))
          ⟨_, _, rfl, but_same, h8p, by simpa using hU8⟩ (fun j σ Hx ⟨_, _, _, s, _⟩ => SqT.of (s _ _ hbf)) ?_ ?_⟩⟩
        · rintro j x σ Hx hj hxj ⟨us2, o5, rfl, sx, hus2, hU2⟩
          rw [lxs] at hj hxj
          obtain ⟨c, hc, hcI⟩ := paired_get (pairedIs hxb) hxj
          have hcx := hcI.mono sx
          have ej : cs.length - j = (cs.length - 1 - j) + 1 := by omega
          have ej2 : cs.length - (j + 1) = cs.length - 1 - j := by omega
          have hdr : cs.drop (cs.length - (j + 1)) = c :: cs.drop (cs.length - j) := by
            rw [ej2, ej, List.drop_eq_getElem_cons (List.getElem?_eq_some_iff.mp hc).1, (List.getElem?_eq_some_iff.mp hc).2]
          have lu2 := hU2.length
          rw [List.length_map, List.length_reverse, List.length_append, List.length_map] at lu2
          have hfl : ((cs.drop (cs.length - j)).filter isNdB).length ≤ cs.length := Nat.le_trans (List.length_filter_le _ _) (by rw [List.length_drop]; omega)
          have hcsl := szs_len cs
          rw [hdr]
          cases c with
          | wd s =>
            have ex := isWd hcx
            subst ex
            refine ⟨_, rfl, _, _, .type "str", _, false, rfl, .ty _, .base (.str s), kit_ty (by decide +kernel), _, rfl, ?_⟩
            refine iteF ⟨us2, _, rfl, sx, hus2, ?_⟩
            rw [List.filter_cons_of_neg (by simp [isNdB])]
            exact hU2
          | nd n2 cs2 =>
            obtain ⟨a2, ca2, xs2, rfl, ha2, _, _⟩ := isNd hcx
            refine ⟨_, rfl, _, _, .type "tuple", _, true, rfl, .ty _, .base (.tup ha2), kit_ty (by decide +kernel), _, rfl, ?_⟩
            refine iteT ⟨_, rfl, .inl ⟨rfl, _, SqL.of hus2⟩, _, rfl, _, rfl, _, _, rfl, rfl, by show 2 ≤ sizeLine; decide, fun T3 hT3 => ?_⟩
            have sT3 := same_new (o := .tup [.ref a2, .int ((dp : Int) + 1)]) hT3
            have hT3p : T3 ≠ pp := fun z => by subst z; rw [hus2] at hT3; cases hT3
            have hp3 := sT3 _ _ hus2
            have tX : TuS Hx (upd (upd Hx T3 (.tup [.ref a2, .int ((dp : Int) + 1)])) pp (.lst (us2 ++ [.ref T3]))) := (TuS.of sT3).trans (TuS.lst hp3)
            refine ⟨pp, us2, _, rfl, rfl, hp3, small6 (by omega), _, _, rfl, same_upd (sx.trans sT3) but_none, upd_same, ?_⟩
            rw [List.filter_cons_of_pos (by simp [isNdB]), List.map_cons, List.cons_append, List.reverse_cons, List.map_append]
            refine (hU2.monoT tX).append (.cons (.tup (by rw [upd_ne hT3p]; exact upd_same) (.cons (hcx.monoT tX) (.cons (.int _) .nil))) .nil)
        · rintro σ Hx ⟨us2, o5, rfl, sx, hus2, hU2⟩
          rw [lxs, Nat.sub_self, List.drop_zero] at hU2
          have hle := szL_kids (dp + 1) cs
          refine ⟨szL (((cs.filter isNdB).map fun c => (c, dp + 1)) ++ st'), by rw [szL_append]; omega, _, ks ++ [(.nd n cs, dp)], _, us2, _, _, _, rfl, sHb.trans sx, sx _ _ hbpf, hFb.mono sx, hus2, hU2, ?_, ?_, rfl, by rw [szL_append]; omega⟩
          · intro y hy
            rcases List.mem_append.mp hy with hy | hy
            · obtain ⟨c, hc, rfl⟩ := List.mem_map.mp hy
              exact (List.mem_filter.mp hc).2
            · exact hall y (List.mem_cons_of_mem _ hy)
          · rw [← hw, List.flatMap_append, ← knotsS_flat, List.flatMap_cons, List.append_assoc]
            simp [knotsN]
end
end Rg
namespace Rg
open PySem PySem.Spec L2
def KidOk (G : Gr) (x : Str) (c : Nd) : Prop := (isN x = false ∧ c = .wd x) ∨ (isN x = true ∧ ∃ m cs' r', c = .nd m cs' ∧ G[m]? = some r' ∧ r'.nm = x)
structure LocOk (G : Gr) (n : Nat) (cs : List Nd) : Prop where
  ex : ∃ r, G[n]? = some r ∧ cs.length = r.ps.length ∧ ∀ (k : Nat) (x : Str) (c : Nd), r.ps[k]? = some x → cs[k]? = some c → KidOk G x c
section
variable {P : Program} {w : World} {K : PySem.W.Frag} {mg : Str → Option Value} {base : Heap} {f : Addr} {fd : FuncData}
def sp_is_made : Sp := fun vs H Q _ => ∃ (a ka : Addr) (G : Gr) (n : Nat) (cs : List Nd), vs = [.ref a, .ref ka] ∧ LD H a (G.map eRl) ∧ G.length ≤ 8 ∧ Is H (.ref ka) (eNd (.nd n cs)) ∧ LocOk G n cs ∧ (∀ r ∈ G, r.ps.length ≤ 4 ∧ ∀ p ∈ r.ps, p.length < 1000) ∧
  ∀ H', Same H H' → Q (.bl true) H'
theorem ok_is_made (F : Fun K "is_made" "is_made" st_is_made f fd) (B : Bl mg) (Ci : Cal P w K mg base 1 "is_name" ["part"] sp_is_name) : FnOk P w K mg base CX0 2 f fd ["grammar", "knot"] sp_is_made := by
  refine F.ok sc_is_made (fun vs H Q E h => ?_) (fun cdv A outer s H vs Q E hr h => ?_)
  · obtain ⟨a, ka, G, n, cs, rfl, _⟩ := h
    rfl
  · obtain ⟨a, ka, G, n, cs, rfl, ⟨gvs, hgv, hG⟩, hgl, hk, ⟨r, hr1, hlen, hloc⟩, hpl, k⟩ := h
    have nd := sc_is_made.nd
    refine ⟨_, pss_cons (ps_asg (pv 1) (pg_tup rfl (pgs_cons (pg_name (i := 2) nd rfl (Or.inl rfl)) (pgs_cons (pg_name (i := 3) nd rfl (Or.inl rfl)) pgs_nil))))
      (pss_cons (ps_if (PW.pt (pw_or (pt_cmpR op_lt (pv 2) pe_int (nomark _)) (pw_or (pt_cmpR op_ge (pv 2) (pe_len B rfl (pv 0)) (nomark _)) (pw_or1 (pt_cmpR op_ne (pe_len B rfl (pv 3)) (pe_len B rfl (pe_ix ix_tup (pe_ix ix_list (pv 0) (pv 2) (fun _ _ => rfl)) pe_int (fun _ _ => rfl))) (nomark _)))))) (pss_one (ps_ret pe_bl)) pss_nil)
      (pss_cons (ps_for PassesOwn.never rfl (_root_.RZ.pi_zipA rfl B.zip (pa_cons (pe_ix ix_tup (pe_ix ix_list (pv 0) (pv 2) (fun _ _ => rfl)) pe_int (fun _ _ => rfl)) (pa_cons (pv 3) pa_nil))) (pg_tup rfl (pgs_cons (pg_name (i := 4) nd rfl (Or.inl rfl)) (pgs_cons (pg_name (i := 5) nd rfl (Or.inl rfl)) pgs_nil)))
        (pss_one (ps_if (pt_not (pt_val (pe_cal Ci hr rfl (pa_cons (pv 4) pa_nil))))
          (pss_one (ps_if (pt_cmpR op_ne (pv 5) (pv 4) (nomark _)) (pss_one (ps_ret pe_bl)) pss_nil))
          (pss_one (ps_if (PW.pt (pw_or (pt_not (pt_val (pe_callB call_isi rfl B.isinstance PyProof.Rows.boot_isinstance (pa_cons (pv 5) (pa_cons (pe_bltn (v := .ty "tuple") rfl B.tuple PyProof.Rows.boot_tuple rfl) pa_nil)) (by decide) (by decide))))
              (pw_or (pt_not (pt_chain op_le op_lt pe_int (pe_ix ix_tup (pv 5) pe_int (fun _ _ => rfl)) (pe_len B rfl (pv 0))))
              (pw_or1 (pt_cmpR op_ne (pe_ix ix_tup (pe_ix ix_list (pv 0) (pe_ix ix_tup (pv 5) pe_int (fun _ _ => rfl)) (fun _ _ => rfl)) pe_int (fun _ _ => rfl)) (pv 4) (nomark _))))))
            (pss_one (ps_ret pe_bl)) pss_nil)))))
      (pss_one (ps_ret pe_bl)))), ?_⟩
    obtain ⟨ka', ca, xs, e, hka, hca, hxs⟩ := isNd hk
    cases e
    obtain ⟨b, pa, hb1, hb, hpa⟩ := getRl' hG hr1
    have hrG : r ∈ G := List.mem_of_getElem? hr1
    have lxs := hxs.length
    rw [List.length_map] at lxs
    have lg := hG.length
    rw [List.length_map] at lg
    have hnl : n < gvs.length := by
      have := (List.getElem?_eq_some_iff.mp hr1).1
      omega
    have hp4 := (hpl r hrG).1
    refine ⟨_, rfl, ka, _, rfl, SqT.of hka, rfl, _, _, rfl, _, _, rfl, rfl, ?_⟩
    refine ⟨_, rfl, _, _, rfl, rfl, _, rfl, ?_⟩
    rw [decide_eq_false (show ¬ (n : Int) < 0 by omega)]
    refine iteF ⟨_, rfl, _, rfl, a, _, rfl, .inl (SqL.of hgv), _, _, rfl, rfl, _, rfl, ?_⟩
    rw [decide_eq_false (show ¬ (gvs.length : Int) ≤ (n : Int) by omega)]
    refine iteF ⟨_, rfl, ca, _, rfl, .inr (SqT.of hca), _, rfl, _, rfl, a, gvs, _, _, rfl, rfl, SqL.of hgv, atI_nat hb1, b, _, 1, _, rfl, rfl, SqT.of hb, atI_nat (j := 1) rfl, pa, _, rfl, .inr (SqT.of hpa), rfl, _, rfl, ?_⟩
    rw [List.length_map, lxs, hlen, decide_eq_true rfl]
    refine iteF ?_
    refine ⟨_, rfl, _, rfl, a, gvs, _, _, rfl, rfl, SqL.of hgv, atI_nat hb1, b, _, 1, _, rfl, rfl, SqT.of hb, atI_nat (j := 1) rfl, _, rfl, pa, ca, _, xs, rfl, .inr ⟨SqT.of hpa, SqT.of hca, _root_.RZ.for_zipT (K := K) (a := pa) (b := ca) (xs := r.ps.map V.str) (ys := xs) (by rw [List.length_map, lxs, hlen])
      (fun i σ Hc => ∃ (o4 o5 : Option V), σ = [some (.ref a), some (.ref ka), some (.int (n : Int)), some (.ref ca), o4, o5] ∧ Same H Hc) ⟨_, _, rfl, Same.refl H⟩ (fun i σ Hc ⟨_, _, _, s⟩ => ⟨SqT.of (s _ _ hpa), SqT.of (s _ _ hca)⟩) ?_ ?_⟩⟩
    · rintro i x y T σ Hc hx hy ⟨o4, o5, rfl, sc⟩ hT
      rw [List.getElem?_map] at hx
      cases ei : r.ps[i]? with
      | none => rw [ei] at hx; cases hx
      | some p =>
        rw [ei] at hx
        cases hx
        obtain ⟨c, hc, hcI⟩ := paired_get (pairedIs hxs) hy
        have sT := same_new (o := .tup [.str p, y]) hT
        have hTT : (upd Hc T (.tup [.str p, y])) T = some (.tup [.str p, y]) := upd_same
        generalize upd Hc T (.tup [.str p, y]) = HT at *
        have s1 := sc.trans sT
        refine ⟨T, _, rfl, SqT.of hTT, rfl, _, _, rfl, _, _, rfl, rfl, ?_⟩
        refine ⟨_, rfl, p, rfl, (hpl r hrG).2 p (List.mem_of_getElem? ei), _, rfl, ?_⟩
        rcases hloc i p c ei hc with ⟨hn, rfl⟩ | ⟨hn, m, cs', r', rfl, hr', hnm⟩
        · rw [hn]
          have ey := isWd hcI
          subst ey
          refine iteT ⟨_, rfl, _, rfl, rfl, _, rfl, ?_⟩
          rw [decide_eq_true rfl]
          exact iteF ⟨_, _, rfl, s1⟩
        · rw [hn]
          obtain ⟨ya, yca, yxs, rfl, hya, _, _⟩ := isNd hcI
          obtain ⟨b2, pa2, hb21, hb2, hpa2⟩ := getRl' hG hr'
          have hml : m < gvs.length := by
            have := (List.getElem?_eq_some_iff.mp hr').1
            omega
          refine iteF ⟨_, rfl, _, _, .type "tuple", _, true, rfl, .ty _, .base (.tup (s1 _ _ hya)), kit_ty (by decide +kernel), _, rfl, ?_⟩
          refine iteF ?_
          refine ⟨_, rfl, ya, _, 0, _, rfl, rfl, SqT.of (s1 _ _ hya), atI_nat (j := 0) rfl, _, _, rfl, rfl, _, rfl, ?_⟩
          rw [decide_eq_true (show (0 : Int) ≤ (m : Int) by omega)]
          refine iteT ⟨_, rfl, a, _, rfl, .inl (SqL.of (s1 _ _ hgv)), _, _, rfl, rfl, _, rfl, ?_⟩
          rw [decide_eq_true (show (m : Int) < (gvs.length : Int) by omega)]
          refine iteF ⟨_, rfl, _, rfl, ya, _, 0, _, rfl, rfl, SqT.of (s1 _ _ hya), atI_nat (j := 0) rfl, a, gvs, _, _, rfl, rfl, SqL.of (s1 _ _ hgv), atI_nat hb21, b2, _, 0, _, rfl, rfl, SqT.of (s1 _ _ hb2), atI_nat (j := 0) rfl, _, rfl, rfl, _, rfl, ?_⟩
          rw [hnm, decide_eq_true rfl]
          exact iteF ⟨_, _, rfl, s1⟩
    · rintro σ Hc ⟨o4, o5, rfl, sc⟩
      exact k Hc sc
def sp_right_tree : Sp := fun vs H Q _ => ∃ (a : Addr) (x : Str) (v : V) (G : Gr) (n : Nat) (cs : List Nd) (r : Rl), vs = [.ref a, .str x, v] ∧ LD H a (G.map eRl) ∧ G.length ≤ 8 ∧ Is H v (eNd (.nd n cs)) ∧ szN (.nd n cs) ≤ 900000 ∧ G[n]? = some r ∧ r.nm = x ∧ (∀ y ∈ knotsN (.nd n cs) 1, ∃ m cs', y.1 = .nd m cs' ∧ LocOk G m cs') ∧
  (∀ r ∈ G, r.ps.length ≤ 4 ∧ ∀ p ∈ r.ps, p.length < 1000) ∧ ∀ H', Same H H' → Q (.bl true) H'
theorem ok_right_tree (F : Fun K "right_tree" "right_tree" st_right_tree f fd) (B : Bl mg) (Ca : Cal P w K mg base 1 "all_knots" ["tree"] sp_all_knots) (Ci : Cal P w K mg base 2 "is_made" ["grammar", "knot"] sp_is_made) : FnOk P w K mg base CX0 3 f fd ["grammar", "name", "tree"] sp_right_tree := by
  refine F.ok sc_right_tree (fun vs H Q E h => ?_) (fun cdv A outer s H vs Q E hr h => ?_)
  · obtain ⟨a, x, v, G, n, cs, r, rfl, _⟩ := h
    rfl
  · obtain ⟨a, x, v, G, n, cs, r, rfl, hGL, hgl, hv, hsz, hr1, hnm, hall, hpl, k⟩ := h
    have nd := sc_right_tree.nd
    refine ⟨_, pss_cons (ps_if (PW.pt (pw_or (pt_not (pt_chain op_le op_lt pe_int (pe_ix ix_tup (pv 2) pe_int (fun _ _ => rfl)) (pe_len B rfl (pv 0))))
          (pw_or1 (pt_cmpR op_ne (pe_ix ix_tup (pe_ix ix_list (pv 0) (pe_ix ix_tup (pv 2) pe_int (fun _ _ => rfl)) (fun _ _ => rfl)) pe_int (fun _ _ => rfl)) (pv 1) (nomark _))))) (pss_one (ps_ret pe_bl)) pss_nil)
      (pss_one (ps_ret (pe_callB (cr_all rfl) rfl B.all PyProof.Rows.boot_all (pa_cons (pe_lc (own := [("knot", 3), ("deep", 4)]) (g := gTup K 2 (gCons (gName 3) (gCons (gName 4) gNil))) (tt := tYes) rfl nd (pi_list (pe_cal Ca (hr.mono (by decide)) rfl (pa_cons (pv 2) pa_nil)))
        (blkOk_by (N := ["grammar", "name", "tree", "knot", "deep"]) (sc := defScope st_right_tree) (by decide +kernel))
        (fun _ _ _ _ _ => pg_tup rfl (pgs_cons (pg_name (i := 3) nd rfl (Or.inl rfl)) (pgs_cons (pg_name (i := 4) nd rfl (Or.inl rfl)) pgs_nil))) (fun _ _ _ _ _ => pts_nil)
        (fun _ _ _ _ _ => pe_cal Ci hr rfl (pa_cons (pv 0) (pa_cons (pv 3) pa_nil)))) pa_nil) (by decide) (by decide)))), ?_⟩
    obtain ⟨gvs, hgv, hG⟩ := hGL
    obtain ⟨ka, ca, xs, rfl, hka, hca, hxs⟩ := isNd hv
    obtain ⟨b, pa, hb1, hb, hpa⟩ := getRl' hG hr1
    have lg := hG.length
    rw [List.length_map] at lg
    have hnl : n < gvs.length := by
      have := (List.getElem?_eq_some_iff.mp hr1).1
      omega
    refine ⟨_, rfl, ka, _, 0, _, rfl, rfl, SqT.of hka, atI_nat (j := 0) rfl, _, _, rfl, rfl, _, rfl, ?_⟩
    rw [decide_eq_true (show (0 : Int) ≤ (n : Int) by omega)]
    refine iteT ⟨_, rfl, a, _, rfl, .inl (SqL.of hgv), _, _, rfl, rfl, _, rfl, ?_⟩
    rw [decide_eq_true (show (n : Int) < (gvs.length : Int) by omega)]
    refine iteF ⟨_, rfl, _, rfl, ka, _, 0, _, rfl, rfl, SqT.of hka, atI_nat (j := 0) rfl, a, gvs, _, _, rfl, rfl, SqL.of hgv, atI_nat hb1, b, _, 0, _, rfl, rfl, SqT.of hb, atI_nat (j := 0) rfl, _, rfl, rfl, _, rfl, ?_⟩
    rw [hnm, decide_eq_true rfl]
    refine iteF ?_
    refine ⟨_, rfl, .ref ka, n, cs, rfl, hv, hsz, fun H1 q s1 hq hL => ?_⟩
    obtain ⟨us, hus, hU⟩ := hL
    have lU := hU.length
    rw [List.length_map] at lU
    have hkl := knotsN_sz (.nd n cs) 1
    refine ⟨q, rfl, ⟨_, SqL.of hus⟩, fun D hD => ?_⟩
    refine lc_list (K := K) (a := q) (xs := us) (fun i Hx => Same H1 Hx ∧ Hx D = some (.lst ((List.replicate i true).map V.bl))) ⟨same_new hD, upd_same⟩ (fun i Hx _ h => SqL.of (h.1 _ _ hus)) ?_ ?_
    · rintro i y Hx hi ⟨sx, hxD⟩
      obtain ⟨z, hz, hzI⟩ := paired_get (pairedIs hU) hi
      obtain ⟨m, cs', ez, hlo⟩ := hall z (List.mem_of_getElem? hz)
      obtain ⟨T, u, rfl, hT, hu⟩ := isKn hzI
      rw [ez] at hu
      obtain ⟨ua, _, _, rfl, _⟩ := isNd hu
      have hil := (List.getElem?_eq_some_iff.mp hi).1
      refine ⟨T, _, rfl, SqT.of (sx _ _ hT), rfl, _, _, rfl, _, _, rfl, rfl, rfl, ?_⟩
      unfold tYes
      refine iteT ⟨_, rfl, _, rfl, a, ua, G, m, cs', rfl, ⟨gvs, (s1.trans sx) _ _ hgv, hG.mono (s1.trans sx)⟩, hgl, hu.mono sx, hlo, hpl, fun Hy sy => ⟨_, sy _ _ hxD, ?_, same_upd (sx.trans sy) hD, ?_⟩⟩
      · rw [List.length_map, List.length_replicate]
        exact small6 (by omega)
      · rw [upd_same, List.replicate_succ', List.map_append]
        rfl
    · rintro Hx ⟨sx, hxD⟩
      refine ⟨D, _, rfl, SqL.of hxD, ?_⟩
      rw [show (List.replicate us.length true).all id = true by simp]
      exact k Hx (s1.trans sx)
def sp_is_reading : Sp := fun vs H Q _ => ∃ (a ra : Addr) (v : V) (G : Gr) (row : List Str) (n : Nat) (cs : List Nd) (r0 r : Rl), vs = [.ref a, .ref ra, v] ∧ LD H a (G.map eRl) ∧ WL H ra row ∧ G.length ≤ 8 ∧ Is H v (eNd (.nd n cs)) ∧ szN (.nd n cs) ≤ 900000 ∧ G[0]? = some r0 ∧ G[n]? = some r ∧ r.nm = r0.nm ∧
  (∀ y ∈ knotsN (.nd n cs) 1, ∃ m cs', y.1 = .nd m cs' ∧ LocOk G m cs') ∧ (∀ r ∈ G, r.ps.length ≤ 4 ∧ ∀ p ∈ r.ps, p.length < 1000) ∧ wordsN (.nd n cs) = row ∧ (∀ x ∈ row, PyData.strOk x = true) ∧ ∀ H', Same H H' → Q (.bl true) H'
theorem strs_lay : ∀ {ws : List Str}, (∀ x ∈ ws, PyData.strOk x = true) → PyData.canLayAll0 (ws.map PyData.str) = true ∧ PyData.depthAll (ws.map PyData.str) ≤ 1
  | [], _ => ⟨rfl, Nat.zero_le _⟩
  | x :: ws, h => by
    obtain ⟨h1, h2⟩ := strs_lay (ws := ws) fun y hy => h y (List.mem_cons_of_mem _ hy)
    have h3 := h x List.mem_cons_self
    constructor
    · simp [PyData.canLayAll0, h1, PyData.canLay0, h3]
    · simp only [List.map_cons, PyData.depthAll, PyData.depth]
      omega
theorem shp_strs {ws : List Str} (h : ∀ x ∈ ws, PyData.strOk x = true) : SeqAt.shaped (.list (ws.map PyData.str)) = true := by
  obtain ⟨h1, h2⟩ := strs_lay h
  simp [SeqAt.shaped, PyData.canLay0, PyData.depth, h1]
  omega
theorem ok_is_reading (F : Fun K "is_reading" "is_reading" st_is_reading f fd) (Cr : Cal P w K mg base 3 "right_tree" ["grammar", "name", "tree"] sp_right_tree) (Co : Cal P w K mg base 1 "row_of" ["tree"] sp_row_of) : FnOk P w K mg base CX0 4 f fd ["grammar", "row", "tree"] sp_is_reading := by
  refine F.ok sc_is_reading (fun vs H Q E h => ?_) (fun cdv A outer s H vs Q E hr h => ?_)
  · obtain ⟨a, ra, v, G, row, n, cs, r0, r, rfl, _⟩ := h
    rfl
  · obtain ⟨a, ra, v, G, row, n, cs, r0, r, rfl, ⟨gvs, hgv, hG⟩, hrow, hgl, hv, hsz, hr0, hr1, hnm, hall, hpl, hw, hok, k⟩ := h
    refine ⟨_, pss_one (ps_ret (pe_and (pe_cal Cr hr rfl (pa_cons (pv 0) (pa_cons (pe_ix ix_tup (pe_ix ix_list (pv 0) pe_int (fun _ _ => rfl)) pe_int (fun _ _ => rfl)) (pa_cons (pv 2) pa_nil))))
      (pe_one (pe_cmpR (op_eqD hr.units) (pe_cal Co (hr.mono (by decide)) rfl (pa_cons (pv 2) pa_nil)) (pv 1) (nomark _))))), ?_⟩
    obtain ⟨b, pa, hb1, hb, hpa⟩ := getRl' hG hr0
    refine ⟨_, rfl, _, rfl, a, gvs, _, _, rfl, rfl, SqL.of hgv, atI_nat (j := 0) hb1, b, _, 0, _, rfl, rfl, SqT.of hb, atI_nat (j := 0) rfl, _, rfl, a, r0.nm, v, G, n, cs, r, rfl, ⟨gvs, hgv, hG⟩, hgl, hv, hsz, hr1, hnm, hall, hpl, fun H1 s1 => ⟨true, rfl, ?_⟩⟩
    refine iteT ⟨_, rfl, v, .nd n cs, rfl, hv.mono s1, hsz, fun H2 q s2 hq hwl => ?_⟩
    rw [hw] at hwl
    have hrow2 := (s1.trans s2) _ _ hrow
    refine ⟨_, rfl, .list (row.map .str), .list (row.map .str), .lst (SqL.of hwl) ((IsL.strs _).dp K), .lst (SqL.of hrow2) ((IsL.strs _).dp K), shp_strs hok, shp_strs hok, ?_⟩
    rw [SeqAt.eqv_refl _ (SeqAt.canLay_of_shaped (shp_strs hok))]
    exact k H2 (s1.trans s2)
end
end Rg
namespace Rg
open PySem PySem.Spec L2
theorem sql_mono {K : PySem.W.Frag} {H H' : Hp} (s : Same H H') {a : Addr} {xs : List V} (h : SqL K H a xs) : SqL K H' a xs := by
  rcases h with (h | ⟨o, h⟩) | h
  · exact .inl (.inl (s _ _ h))
  · exact .inl (.inr ⟨o, s _ _ h⟩)
  · exact .inr h
section
variable {P : Program} {w : World} {K : PySem.W.Frag} {mg : Str → Option Value} {base : Heap} {f : Addr} {fd : FuncData}
def sp_law_cell (K : PySem.W.Frag) : Sp := fun vs H Q _ => ∃ (a : Addr) (ns : List Int) (k : Int), vs = [.ref a, .int k] ∧ SqL K H a (ns.map V.int) ∧ ns.length ≤ 1000 ∧ ∀ c : Int, Q (.int c) H
theorem ok_law_cell (F : Fun K "_law_cell" "_law_cell" st_law_cell f fd) (B : Bl mg) : FnOk P w K mg base CX0 1 f fd ["script", "k"] (sp_law_cell K) := by
  refine F.ok sc_law_cell (fun vs H Q E h => ?_) (fun cdv A outer s H vs Q E hr h => ?_)
  · obtain ⟨a, ns, k, rfl, _⟩ := h
    rfl
  · obtain ⟨a, ns, k, rfl, ha, hl, q⟩ := h
    refine ⟨_, pss_cons (ps_if (pt_chain op_le op_lt pe_int (pv 1) (pe_len B rfl (pv 0))) (pss_one (ps_ret (pe_ix ix_list (pv 0) (pv 1) (fun _ _ => rfl)))) pss_nil) (pss_one (ps_ret (pv 1))), ?_⟩
    refine ⟨_, rfl, _, _, rfl, rfl, _, rfl, ?_⟩
    by_cases h0 : 0 ≤ k
    · rw [decide_eq_true h0]
      refine iteT ⟨_, rfl, a, _, rfl, .inl ha, _, _, rfl, rfl, _, rfl, ?_⟩
      rw [List.length_map]
      by_cases h1 : k < (ns.length : Int)
      · rw [decide_eq_true h1]
        obtain ⟨j, rfl⟩ : ∃ j : Nat, k = (j : Int) := ⟨k.toNat, by omega⟩
        have hj : j < ns.length := by omega
        exact iteT ⟨_, rfl, _, rfl, a, _, _, _, rfl, rfl, ha, atI_nat (j := j) (v := .int ns[j]) (by rw [List.getElem?_map, List.getElem?_eq_getElem hj]; rfl), q _⟩
      · rw [decide_eq_false h1]
        exact iteF ⟨_, rfl, q _⟩
    · rw [decide_eq_false h0]
      exact iteF ⟨_, rfl, iteF ⟨_, rfl, q _⟩⟩
def sp_law_stir : Sp := fun vs H Q _ => ∃ (c : Int) (k : Nat), vs = [.int c, .int (k : Int)] ∧ k ≤ 1000 ∧ ∀ r : Int, Q (.int r) H
theorem ok_law_stir (F : Fun K "_law_stir" "_law_stir" st_law_stir f fd) : FnOk P w K mg base CX0 1 f fd ["cell", "k"] sp_law_stir := by
  refine F.ok sc_law_stir (fun vs H Q E h => ?_) (fun cdv A outer s H vs Q E hr h => ?_)
  · obtain ⟨c, k, rfl, _⟩ := h
    rfl
  · obtain ⟨c, k, rfl, hk, q⟩ := h
    have nd := sc_law_stir.nd
    refine ⟨_, pss_cons (ps_set (i := 2) nd rfl (Or.inl rfl) (pe_op op_mulW (pe_op op_add (pe_op op_add (pe_op op_mod (pv 0) (pe_op op_pow pe_int pe_int)) (pe_op op_mulW pe_int (pv 1))) pe_int) pe_int))
      (pss_cons (ps_set (i := 2) nd rfl (Or.inl rfl) (pe_op op_mod (pv 2) pe_int))
      (pss_cons (ps_set (i := 2) nd rfl (Or.inl rfl) (pe_op op_mod (pe_op op_add (pe_op op_add (pe_op op_mulW (pv 2) (pv 2)) (pe_op op_mulW pe_int (pv 1))) pe_int) pe_int))
      (pss_one (ps_ret (pe_op op_fdiv (pe_op op_mod (pe_op op_mulW (pv 2) (pv 2)) pe_int) pe_int))))), ?_⟩
    have hkb : ((k : Int)).natAbs < 2 ^ 10 := by
      have : (k : Int).natAbs = k := Int.natAbs_natCast k
      rw [this]
      exact Nat.lt_of_le_of_lt hk (by decide)
    have hM : (170141183460469231731687303715884105727 : Int).natAbs < 2 ^ 127 := by decide
    have hpM : (0 : Int) < 170141183460469231731687303715884105727 := by decide
    have hp60 : (0 : Int) < 10 ^ Int.toNat 60 := by decide
    have hmod : ∀ z : Int, (z % 170141183460469231731687303715884105727).natAbs < 2 ^ 127 := fun z => by
      have h1 := Int.emod_nonneg z (show (170141183460469231731687303715884105727 : Int) ≠ 0 by decide)
      have h2 := Int.emod_lt_of_pos z (show (0 : Int) < 170141183460469231731687303715884105727 by decide)
      refine Nat.lt_trans ?_ hM
      omega
    refine ⟨_, rfl, _, _, rfl, rfl, ⟨by decide, by decide, by decide⟩, _, _, rfl, rfl, hp60, _, rfl, _, _, rfl, rfl, wide_mul (a := 13) (b := 10) (by decide) hkb (by decide) (by decide) (by decide), _, _, rfl, rfl, _, _, rfl, rfl, _, _, rfl, rfl, wide_mul (a := 201) (b := 105) ?_ (by decide) (by decide) (by decide) (by decide), ?_⟩
    · have h1 := Int.emod_nonneg c (show ((10 : Int) ^ (60 : Int).toNat) ≠ 0 by decide)
      have h2 := Int.emod_lt_of_pos c (show (0 : Int) < ((10 : Int) ^ (60 : Int).toNat) by decide)
      have h3 : ((10 : Int) ^ (60 : Int).toNat) = 1000000000000000000000000000000000000000000000000000000000000 := by decide
      have h4 : (2 : Nat) ^ 201 = 3213876088517980551083924184682325205044405987565585670602752 := by decide
      rw [h3] at h1 h2 ⊢
      rw [h4]
      omega
    · refine ⟨_, rfl, _, _, rfl, rfl, hpM, _, rfl, _, rfl, _, _, rfl, rfl, wide_mul (a := 127) (b := 127) (hmod _) (hmod _) (by decide) (by decide) (by decide), _, rfl, _, _, rfl, rfl, wide_mul (a := 17) (b := 10) (by decide) hkb (by decide) (by decide) (by decide), _, _, rfl, rfl, _, _, rfl, rfl, _, _, rfl, rfl, hpM, ?_⟩
      exact ⟨_, rfl, _, rfl, _, _, rfl, rfl, wide_mul (a := 127) (b := 127) (hmod _) (hmod _) (by decide) (by decide) (by decide), _, _, rfl, rfl, hpM, _, _, rfl, rfl, ⟨by decide, by decide⟩, q _⟩
def sp_law_drawn : Sp := fun vs H Q _ => ∃ (c : Int) (sa : Addr) (sizes : List Nat), vs = [.int c, .ref sa] ∧ NL H sa sizes ∧ (∀ s ∈ sizes, 0 < s ∧ s ≤ 1000000) ∧ sizes.length ≤ 8 ∧
  ∀ H' p ds, Same H H' → H p = none → NL H' p ds → Paired (fun d s : Nat => d < s) ds sizes → Q (.ref p) H'
theorem ok_law_drawn (F : Fun K "_law_drawn" "_law_drawn" st_law_drawn f fd) (B : Bl mg) (Cs : Cal P w K mg base 1 "_law_stir" ["cell", "k"] sp_law_stir) : FnOk P w K mg base CX0 2 f fd ["cell", "sizes"] sp_law_drawn := by
  refine F.ok sc_law_drawn (fun vs H Q E h => ?_) (fun cdv A outer s H vs Q E hr h => ?_)
  · obtain ⟨c, sa, sizes, rfl, _⟩ := h
    rfl
  · obtain ⟨c, sa, sizes, rfl, hsa, hpos, hl, k⟩ := h
    have nd := sc_law_drawn.nd
    refine ⟨_, pss_cons (ps_set (i := 2) nd rfl (Or.inl rfl) (pe_lst pa_nil))
      (pss_cons (ps_set (i := 3) nd rfl (Or.inl rfl) (pe_op op_sub (pv 0) (pe_op op_pow pe_int pe_int)))
      (pss_cons (ps_for PassesOwn.never rfl (pi_enum rfl B.enumerate (pa_cons (pv 1) pa_nil)) (pg_tup rfl (pgs_cons (pg_name (i := 4) nd rfl (Or.inl rfl)) (pgs_cons (pg_name (i := 5) nd rfl (Or.inl rfl)) pgs_nil)))
        (pss_one (ps_if (pt_cmpR op_ge (pv 3) pe_int (nomark _))
          (pss_cons (ps_expr (pe_app (pv 2) (pe_op op_mod (pv 3) (pv 5)))) (pss_one (ps_set (i := 3) nd rfl (Or.inl rfl) (pe_op op_fdiv (pv 3) (pv 5)))))
          (pss_one (ps_expr (pe_app (pv 2) (pe_op op_mod (pe_cal Cs hr rfl (pa_cons (pv 0) (pa_cons (pv 4) pa_nil))) (pv 5))))))))
      (pss_one (ps_ret (pv 2))))), ?_⟩
    refine ⟨by decide, fun pf hpf => ?_⟩
    have s1 := same_new (o := .lst []) hpf
    have h1f : (upd H pf (.lst [])) pf = some (.lst []) := upd_same
    generalize upd H pf (.lst []) = H1 at *
    refine ⟨_, rfl, _, _, rfl, rfl, ⟨by decide, by decide, by decide⟩, _, _, rfl, rfl, _, rfl, sa, _, rfl, SqL.of (s1 _ _ hsa), ?_⟩
    have take1 : ∀ {i : Nat} {x : Nat} {ds : List Nat} {d : Nat}, sizes[i]? = some x → Paired (fun d s : Nat => d < s) ds (sizes.take i) → d < x → Paired (fun d s : Nat => d < s) (ds ++ [d]) (sizes.take (i + 1)) := fun hi hp hd => by
      rw [take_succ_of hi]
      exact hp.snoc hd
    refine for_it (walk_enum (xs := sizes.map vN)) (fun i σ Hc => ∃ (rest : Int) (o4 o5 : Option V) (ds : List Nat), σ = [some (.int c), some (.ref sa), some (.ref pf), some (.int rest), o4, o5] ∧ Same H Hc ∧ NL Hc pf ds ∧ Paired (fun d s : Nat => d < s) ds (sizes.take i))
      ⟨_, _, _, [], rfl, s1, h1f, .nil⟩ (fun i σ Hc _ ⟨_, _, _, _, _, s, _⟩ => SqL.of (s _ _ hsa)) ?_ ?_
    · rintro i v σ Hc Hc' hil ⟨rest, o4, o5, ds, rfl, sc, hds, hP⟩ ⟨T, x1, y1, rfl, hT, rfl, e1, e2⟩
      cases e1
      replace e2 : (sizes.map vN)[i]? = some y1 := e2
      rw [List.length_map] at hil
      have hxi : sizes[i]? = some sizes[i] := List.getElem?_eq_getElem hil
      rw [List.getElem?_map, hxi] at e2
      have ey : y1 = vN sizes[i] := (Option.some.inj e2).symm
      subst ey
      obtain ⟨hx0, hx1⟩ := hpos _ (List.getElem_mem hil)
      generalize hx : sizes[i] = x at *
      have sT := same_new (o := .tup [.int (i : Nat), vN x]) hT
      have hTT : (upd Hc T (.tup [.int (i : Nat), vN x])) T = some (.tup [.int (i : Nat), vN x]) := upd_same
      generalize upd Hc T (.tup [.int (i : Nat), vN x]) = HT at *
      have lp := Paired.length hP
      rw [List.length_take] at lp
      have hfT : HT pf = some (.lst (ds.map vN)) := sT _ _ hds
      have add : ∀ (z : Int) (rest' : Int), ∃ (rest : Int) (o4' o5' : Option V) (ds' : List Nat), ([some (.int c), some (.ref sa), some (.ref pf), some (.int rest'), some (.int (i : Nat)), some (vN x)] : L2.St) = [some (.int c), some (.ref sa), some (.ref pf), some (.int rest), o4', o5'] ∧
          Same H (upd HT pf (.lst (ds.map vN ++ [.int (z % (x : Int))]))) ∧ NL (upd HT pf (.lst (ds.map vN ++ [.int (z % (x : Int))]))) pf ds' ∧ Paired (fun d s : Nat => d < s) ds' (sizes.take (i + 1)) := fun z rest' => by
        have h1 := Int.emod_nonneg z (show (x : Int) ≠ 0 by omega)
        have h2 := Int.emod_lt_of_pos z (show (0 : Int) < (x : Int) by omega)
        refine ⟨rest', _, _, ds ++ [(z % (x : Int)).toNat], rfl, same_upd (sc.trans sT) hpf, ?_, take1 hxi hP (by omega)⟩
        unfold NL
        rw [upd_same, List.map_append]
        congr 4
        show V.int (z % (x : Int)) = V.int (((z % (x : Int)).toNat : Nat) : Int)
        rw [Int.toNat_of_nonneg h1]
      refine ⟨T, _, rfl, SqT.of hTT, rfl, _, _, rfl, _, _, rfl, rfl, _, rfl, _, _, rfl, rfl, _, rfl, ?_⟩
      by_cases h0 : 0 ≤ rest
      · rw [decide_eq_true h0]
        refine iteT ⟨_, rfl, .inl ⟨rfl, _, SqL.of hfT⟩, _, rfl, _, rfl, _, _, rfl, rfl, by omega, pf, _, _, rfl, rfl, hfT, small6 (by rw [List.length_map]; omega), ?_⟩
        exact ⟨_, rfl, _, rfl, _, _, rfl, rfl, ⟨by omega, by omega⟩, add rest _⟩
      · rw [decide_eq_false h0]
        exact iteF ⟨_, rfl, .inl ⟨rfl, _, SqL.of hfT⟩, _, rfl, _, rfl, c, i, rfl, by omega, fun r => ⟨_, rfl, _, _, rfl, rfl, by omega, pf, _, _, rfl, rfl, hfT, small6 (by rw [List.length_map]; omega), add r rest⟩⟩
    · rintro σ Hc ⟨rest, o4, o5, ds, rfl, sc, hds, hP⟩
      rw [List.length_map, List.take_length] at hP
      exact ⟨_, rfl, k Hc pf ds sc hpf hds hP⟩
end
end Rg
namespace Rg
open PySem PySem.Spec L2
def nm4 : List Str := ["S", "A", "BB", "C_1"]
def wd3 : List Str := ["a", "b", "cat"]
structure LawG (G : Gr) : Prop where
  ne : G ≠ []
  len : G.length ≤ 8
  nm : ∀ r ∈ G, r.nm ∈ nm4
  pl : ∀ r ∈ G, r.ps.length ≤ 4
  ps : ∀ r ∈ G, ∀ p ∈ r.ps, p ∈ wd3 ∨ ∃ r' ∈ G, r'.nm = p
  ct : ∀ r ∈ G, 0 ≤ r.ct
theorem inV_strs_nil (x : Str) : inV (.str x) [] = false := rfl
theorem flat_strs' (ws : List Str) : (ws.map V.str).all flatV = true := by
  rw [List.all_eq_true]
  intro x hx
  obtain ⟨y, _, rfl⟩ := List.mem_map.mp hx
  rfl
theorem nm4_get {d : Nat} (h : d < 4) : ∃ x, nm4[d]? = some x ∧ x ∈ nm4 := by
  have : d < nm4.length := h
  exact ⟨nm4[d], List.getElem?_eq_getElem this, List.getElem_mem this⟩
theorem wd3_get {d : Nat} (h : d < 3) : ∃ x, wd3[d]? = some x ∧ x ∈ wd3 := by
  have : d < wd3.length := h
  exact ⟨wd3[d], List.getElem?_eq_getElem this, List.getElem_mem this⟩
theorem get_str {ws : List Str} {i : Nat} {x : Str} (h : ws[i]? = some x) : (ws.map V.str)[i]? = some (.str x) := by rw [List.getElem?_map, h]; rfl
theorem get_nat {ws : List Nat} {i : Nat} {x : Nat} (h : ws[i]? = some x) : (ws.map vN)[i]? = some (vN x) := by rw [List.getElem?_map, h]; rfl
def sz8 : List Nat := [4, 5, 8, 8, 8, 8, 4, 1000000]
section
variable {P : Program} {w : World} {K : PySem.W.Frag} {mg : Str → Option Value} {base : Heap} {f : Addr} {fd : FuncData}
def sp_law_grammar (K : PySem.W.Frag) : Sp := fun vs H Q _ => ∃ (a : Addr) (ns : List Int), vs = [.ref a] ∧ SqL K H a (ns.map V.int) ∧ ns.length ≤ 1000 ∧
  ∀ H' p G, Same H H' → H p = none → LD H' p (G.map eRl) → LawG G → Q (.ref p) H'
theorem ok_law_grammar (F : Fun K "_law_grammar" "_law_grammar" st_law_grammar f fd) (B : Bl mg) (Cc : Cal P w K mg base 1 "_law_cell" ["script", "k"] (sp_law_cell K)) (Cd : Cal P w K mg base 2 "_law_drawn" ["cell", "sizes"] sp_law_drawn) :
    FnOk P w K mg base CX0 3 f fd ["script"] (sp_law_grammar K) := by
  refine F.ok sc_law_grammar (fun vs H Q E h => ?_) (fun cdv A outer s H vs Q E hr h => ?_)
  · obtain ⟨a, ns, rfl, _⟩ := h
    rfl
  · obtain ⟨a, ns, rfl, ha, hl, k⟩ := h
    have nd := sc_law_grammar.nd
    refine ⟨_, pss_cons (ps_setLc (i := 1) (own := [("k", 10)]) (g := gName 10) (tt := tYes) rfl nd rfl rfl rfl (pi_range1 rfl B.range (pa_cons (pe_op op_add pe_int (pe_op op_mod (pe_cal Cc (hr.mono (by decide)) rfl (pa_cons (pv 0) (pa_cons pe_int pa_nil))) pe_int)) pa_nil))
          (blkOk_by (N := ["script", "cells", "heads", "used", "rules", "head", "cell", "d", "parts", "number", "k"]) (sc := defScope st_law_grammar) (by decide +kernel))
          (fun _ _ _ _ _ => pg_name (i := 10) nd rfl (Or.inl rfl)) (fun _ _ _ _ _ => pts_nil)
          (fun _ _ _ _ _ => pe_cal Cc (hr.mono (by decide)) rfl (pa_cons (pv 0) (pa_cons (pe_op op_add pe_int (pv 10)) pa_nil))))
      (pss_cons (ps_set (i := 2) nd rfl (Or.inr rfl) (pe_lc (own := [("cell", 6)]) (g := gName 6) (tt := tYes) rfl nd (pi_list (pv 1))
          (blkOk_by (N := ["script", "cells", "heads", "used", "rules", "head", "cell", "d", "parts", "number", "k"]) (sc := defScope st_law_grammar) (by decide +kernel))
          (fun _ _ _ _ _ => pg_name (i := 6) nd rfl (Or.inl rfl)) (fun _ _ _ _ _ => pts_nil)
          (fun _ _ _ _ _ => pe_ix (r := rIxL K) ixL (pe_lst (pa_cons pe_str (pa_cons pe_str (pa_cons pe_str (pa_cons pe_str pa_nil))))) (pe_ix (r := rIxL K) ixL (pe_cal Cd hr rfl (pa_cons (pv 6) (pa_cons (pe_lst (pa_cons pe_int pa_nil)) pa_nil))) pe_int (fun _ _ => rfl)) (fun _ _ => rfl))))
      (pss_cons (ps_setLc (i := 3) (own := [("k", 10)]) (g := gName 10) rfl nd rfl rfl rfl (pi_range1 rfl B.range (pa_cons (pe_len B rfl (pv 2)) pa_nil))
          (blkOk_by (N := ["script", "cells", "heads", "used", "rules", "head", "cell", "d", "parts", "number", "k"]) (sc := defScope st_law_grammar) (by decide +kernel))
          (fun _ _ _ _ _ => pg_name (i := 10) nd rfl (Or.inl rfl))
          (fun _ _ _ _ _ => pts_one (pt_cmpR (ninS (K := K)) (pe_ix (r := rIxL K) ixL (pv 2) (pv 10) (fun _ _ => rfl)) (pe_slice (slL (K := K)) (pv 2) po_none (po_some (pv 10))) rfl))
          (fun _ _ _ _ _ => pe_ix (r := rIxL K) ixL (pv 2) (pv 10) (fun _ _ => rfl)))
      (pss_cons (ps_set (i := 4) nd rfl (Or.inl rfl) (pe_lst pa_nil))
      (pss_cons (ps_for PassesOwn.never rfl (_root_.RZ.pi_zipA rfl B.zip (pa_cons (pv 2) (pa_cons (pv 1) pa_nil))) (pg_tup rfl (pgs_cons (pg_name (i := 5) nd rfl (Or.inl rfl)) (pgs_cons (pg_name (i := 6) nd rfl (Or.inl rfl)) pgs_nil)))
        (pss_cons (ps_set (i := 7) nd rfl (Or.inl rfl) (pe_cal Cd hr rfl (pa_cons (pv 6) (pa_cons (pe_lst (pa_cons pe_int (pa_cons pe_int (pa_cons pe_int (pa_cons pe_int (pa_cons pe_int (pa_cons pe_int (pa_cons pe_int (pa_cons (pe_op op_pow pe_int pe_int) pa_nil))))))))) pa_nil))))
        (pss_cons (ps_set (i := 8) nd rfl (Or.inl rfl) (pe_lst pa_nil))
        (pss_cons (ps_for PassesOwn.never rfl (pi_list (pe_slice sl_list (pv 7) (po_some pe_int) (po_some (pe_op op_add pe_int (pe_ix ix_list (pv 7) pe_int (fun _ _ => rfl)))))) (pg_name (i := 9) nd rfl (Or.inl rfl))
          (pss_one (ps_if (pt_cmpR op_lt (pv 9) pe_int (nomark _))
            (pss_one (ps_expr (pe_app (pv 8) (pe_ix ix_list (pe_lst (pa_cons pe_str (pa_cons pe_str (pa_cons pe_str pa_nil)))) (pv 9) (fun _ _ => rfl)))))
            (pss_one (ps_expr (pe_app (pv 8) (pe_ix ix_list (pv 3) (pe_op op_mod (pe_op op_sub (pv 9) pe_int) (pe_len B rfl (pv 3))) (fun _ _ => rfl))))))))
        (pss_one (ps_expr (pe_app (pv 4) (pe_tup (pa_cons (pv 5) (pa_cons (pe_callTy (r := rTupOf K) tupOf rfl B.tuple PyProof.Rows.boot_tuple (pa_cons (pv 8) pa_nil)) (pa_cons (pe_ix ix_list (pe_lst (pa_cons pe_int (pa_cons pe_int (pa_cons (pe_op op_mod (pe_ix ix_list (pv 7) pe_int (fun _ _ => rfl)) pe_int) (pa_cons (pe_ix ix_list (pv 7) pe_int (fun _ _ => rfl)) pa_nil))))) (pe_ix ix_list (pv 7) pe_int (fun _ _ => rfl)) (fun _ _ => rfl)) pa_nil)))))))))))
      (pss_one (ps_ret (pv 4))))))), ?_⟩
    -- cells
    refine ⟨_, rfl, a, ns, 0, rfl, ha, hl, fun c0 => ⟨_, _, rfl, rfl, by show (0 : Int) < 8; decide, _, _, rfl, rfl, ?_⟩⟩
    have hm0 := Int.emod_nonneg c0 (show (8 : Int) ≠ 0 by decide)
    have hm1 := Int.emod_lt_of_pos c0 (show (0 : Int) < 8 by decide)
    obtain ⟨m, hm⟩ : ∃ m : Nat, (1 : Int) + c0 % 8 = (m : Int) := ⟨((1 : Int) + c0 % 8).toNat, by omega⟩
    have hm1' : 1 ≤ m ∧ m ≤ 8 := by omega
    refine ⟨_, rfl, by omega, by omega, ?_⟩
    rw [hm, Int.toNat_natCast]
    intro D1 hD1
    have sD1 := same_new (o := .lst []) hD1
    refine lc_it (walk_range (lo := 0) (n := m)) (fun i Hx => Same H Hx ∧ ∃ cs : List Int, cs.length = i ∧ Hx D1 = some (.lst (cs.map V.int))) ⟨sD1, [], rfl, upd_same⟩ (fun i Hx _ h => True.intro) ?_ ?_
    · rintro i x Hx Hx' hi ⟨sx, cs, lcs, hcs⟩ ⟨rfl, rfl⟩
      refine ⟨rfl, ?_⟩
      unfold tYes
      refine iteT ⟨_, rfl, _, rfl, _, _, rfl, rfl, a, ns, _, rfl, sql_mono sx ha, hl, fun c => ⟨_, hcs, small6 (by rw [List.length_map]; omega), same_upd sx hD1, cs ++ [c], by rw [List.length_append, lcs]; rfl, by rw [upd_same, List.map_append]; rfl⟩⟩
    · rintro H1 ⟨s1, cs, lcs, hcs⟩
      -- heads
      refine ⟨_, rfl, D1, rfl, ⟨_, SqL.of hcs⟩, fun D2 hD2 => ?_⟩
      have sD2 := same_new (o := .lst []) hD2
      have hD2H : H D2 = none := s1.free hD2
      refine lc_list (K := K) (a := D1) (xs := cs.map V.int) (fun i Hx => Same H1 Hx ∧ ∃ hs : List Str, hs.length = i ∧ (∀ x ∈ hs, x ∈ nm4) ∧ Hx D2 = some (.lst (hs.map V.str))) ⟨sD2, [], rfl, fun _ h => absurd h List.not_mem_nil, upd_same⟩ (fun i Hx _ h => SqL.of (h.1 _ _ hcs)) ?_ ?_
      · rintro i x Hx hi ⟨sx, hs, lhs, hhs, hxD⟩
        rw [List.getElem?_map] at hi
        cases ei : cs[i]? with
        | none => rw [ei] at hi; cases hi
        | some c =>
          rw [ei] at hi
          cases hi
          have hil := (List.getElem?_eq_some_iff.mp ei).1
          refine ⟨rfl, ?_⟩
          unfold tYes
          refine iteT ⟨by show 4 ≤ sizeLine; decide, fun L4 hL4 => ⟨_, rfl, by show 1 ≤ sizeLine; decide, fun L1 hL1 => ?_⟩⟩
          have sa := same_new (o := .lst [.str "S", .str "A", .str "BB", .str "C_1"]) hL4
          have sb := sa.trans (same_new (o := .lst [.int 4]) hL1)
          have hL4' : (upd (upd Hx L4 (.lst [.str "S", .str "A", .str "BB", .str "C_1"])) L1 (.lst [.int 4])) L4 = some (.lst (nm4.map V.str)) := (same_new (o := .lst [.int 4]) hL1) _ _ upd_same
          refine ⟨c, L1, [4], rfl, upd_same, fun s hs => by rw [List.mem_singleton.mp hs]; decide, by decide, fun H' q ds s2 hq hds hP => ?_⟩
          obtain ⟨d, rfl, hd⟩ : ∃ d, ds = [d] ∧ d < 4 := by
            cases hP with
            | cons h t => cases t; exact ⟨_, rfl, h⟩
          obtain ⟨nm, hn1, hn2⟩ := nm4_get hd
          have sc := sb.trans s2
          refine ⟨q, _, 0, _, rfl, rfl, SqL.of hds, atI_nat (j := 0) rfl, L4, _, _, _, rfl, rfl, SqL.of (s2 _ _ hL4'), atI_nat (j := d) (get_str hn1), ?_⟩
          refine ⟨_, sc _ _ hxD, small6 (by rw [List.length_map, lhs]; omega), same_upd (sx.trans sc) hD2, hs ++ [nm], by rw [List.length_append, lhs]; rfl, fun y hy => ?_, by rw [upd_same, List.map_append]; rfl⟩
          rcases List.mem_append.mp hy with hy | hy
          · exact hhs y hy
          · rw [List.mem_singleton.mp hy]; exact hn2
      · rintro H2 ⟨s2, hs, lhs, hhs, hhD⟩
        rw [List.length_map, lcs] at lhs
        have hcs2 := s2 _ _ hcs
        have s02 := s1.trans s2
        -- used
        refine ⟨_, rfl, D2, _, rfl, .inl (SqL.of hhD), _, rfl, by rw [List.length_map]; omega, by rw [List.length_map]; omega, ?_⟩
        rw [List.length_map, Int.toNat_natCast, lhs]
        intro D3 hD3
        have sD3 := same_new (o := .lst []) hD3
        refine lc_it (walk_range (lo := 0) (n := m)) (fun i Hx => Same H2 Hx ∧ ∃ us : List Str, us.length ≤ i ∧ (1 ≤ i → us ≠ []) ∧ (∀ x ∈ us, x ∈ hs) ∧ Hx D3 = some (.lst (us.map V.str))) ⟨sD3, [], Nat.zero_le _, fun h => absurd h (by decide), fun _ h => absurd h List.not_mem_nil, upd_same⟩ (fun i Hx _ h => True.intro) ?_ ?_
        · rintro i x Hx Hx' hi ⟨sx, us, lus, hne, hus, hxD⟩ ⟨rfl, ex⟩
          have ex' : x = V.int (i : Int) := by
            rw [ex]
            show V.int (0 + (i : Int)) = _
            rw [Int.zero_add]
          subst ex'
          clear ex
          have hhx := sx _ _ hhD
          obtain ⟨hd, hhd⟩ : ∃ hd, hs[i]? = some hd := ⟨_, List.getElem?_eq_getElem (by omega)⟩
          refine ⟨rfl, ?_⟩
          refine ⟨_, rfl, _, rfl, D2, _, _, _, rfl, rfl, SqL.of hhx, atI_nat (j := i) (get_str hhd), _, rfl, _, rfl, _, rfl, D2, _, rfl, SqL.of hhx, fun l hl => ?_⟩
          have sl := same_new (o := .lst (cutV (hs.map V.str) none (some (i : Int)))) hl
          refine ⟨l, _, rfl, .inl (SqL.of upd_same), rfl, ?_, _, rfl, ?_⟩
          · rw [List.all_eq_true]
            intro y hy
            unfold cutV at hy
            have := List.mem_of_mem_drop (List.mem_of_mem_take hy)
            obtain ⟨z, _, rfl⟩ := List.mem_map.mp this
            rfl
          · cases hb : inV (.str hd) (cutV (hs.map V.str) none (some (i : Int))) with
            | true =>
              refine iteF ⟨sx.trans sl, us, by omega, fun _ => ?_, hus, sl _ _ hxD⟩
              cases i with
              | zero =>
                have : cutV (hs.map V.str) none (some ((0 : Nat) : Int)) = [] := by
                  unfold cutV
                  rw [HT.sIx_none, HT.sIx_nat]
                  simp
                rw [this] at hb
                cases hb
              | succ i => exact hne (by omega)
            | false =>
              refine iteT ⟨_, rfl, _, rfl, D2, _, _, _, rfl, rfl, SqL.of (sl _ _ hhx), atI_nat (j := i) (get_str hhd), _, sl _ _ hxD, small6 (by rw [List.length_map]; omega), same_upd (sx.trans sl) hD3, us ++ [hd], by rw [List.length_append, List.length_singleton]; omega, fun _ => by simp, fun y hy => ?_, by rw [upd_same, List.map_append]; rfl⟩
              rcases List.mem_append.mp hy with hy | hy
              · exact hus y hy
              · rw [List.mem_singleton.mp hy]; exact List.mem_of_getElem? hhd
        · rintro H3 ⟨s3, us, lus, hune, hus, hxD⟩
          have hune := hune hm1'.1
          have lus0 : 0 < us.length := List.length_pos_iff.mpr hune
          have s03 := s02.trans s3
          have hh3 := s3 _ _ hhD
          have hc3 := s3 _ _ hcs2
          -- rules
          refine ⟨by decide, fun pr hpr => ?_⟩
          have s4 := same_new (o := .lst []) hpr
          have hr4 : (upd H3 pr (.lst [])) pr = some (.lst []) := upd_same
          generalize upd H3 pr (.lst []) = H4 at *
          have hprH : H pr = none := s03.free hpr
          have hprH3 : H3 pr = none := hpr
          refine ⟨_, rfl, _, rfl, D2, D1, hs.map V.str, cs.map V.int, rfl, .inl ⟨SqL.of (s4 _ _ hh3), SqL.of (s4 _ _ hc3), ?_⟩⟩
          refine for_it (walk_zip (n := m) (by rw [List.length_map, List.length_map, lhs, lcs]; omega)) (fun i σ Hx => ∃ (o5 o6 o7 o8 o9 : Option V) (G : Gr), σ = [some (.ref a), some (.ref D1), some (.ref D2), some (.ref D3), some (.ref pr), o5, o6, o7, o8, o9, none] ∧ Same H3 Hx ∧ LD Hx pr (G.map eRl) ∧ G.map Rl.nm = hs.take i ∧
              (∀ r ∈ G, r.ps.length ≤ 4 ∧ (∀ p ∈ r.ps, p ∈ wd3 ∨ p ∈ hs) ∧ 0 ≤ r.ct))
            ⟨none, none, none, none, none, [], rfl, s4, ⟨[], hr4, .nil⟩, rfl, fun _ h => absurd h List.not_mem_nil⟩ (fun i σ Hx _ ⟨_, _, _, _, _, _, _, s, _⟩ => ⟨SqL.of (s _ _ hh3), SqL.of (s _ _ hc3)⟩) ?_ ?_
          · rintro i v σ Hx Hx' hil ⟨o5, o6, o7, o8, o9, G, rfl, sx, ⟨rvs, hrv, hRI⟩, hGn, hGr⟩ ⟨T, x1, y1, rfl, hT, rfl, e1, e2⟩
            obtain ⟨hd, hhd⟩ : ∃ hd, hs[i]? = some hd := ⟨_, List.getElem?_eq_getElem (by omega)⟩
            obtain ⟨c, hci⟩ : ∃ c, cs[i]? = some c := ⟨_, List.getElem?_eq_getElem (by omega)⟩
            replace e1 : (hs.map V.str)[i]? = some x1 := e1
            replace e2 : (cs.map V.int)[i]? = some y1 := e2
            rw [get_str hhd] at e1
            rw [List.getElem?_map, hci] at e2
            have ex : x1 = .str hd := (Option.some.inj e1).symm
            have ey : y1 = .int c := (Option.some.inj e2).symm
            subst ex ey
            have lG : G.length = i := by
              have := congrArg List.length hGn
              rw [List.length_map, List.length_take] at this
              omega
            have lR := hRI.length
            rw [List.length_map] at lR
            have sT := same_new (o := .tup [.str hd, .int c]) hT
            have hTT : (upd Hx T (.tup [.str hd, .int c])) T = some (.tup [.str hd, .int c]) := upd_same
            generalize upd Hx T (.tup [.str hd, .int c]) = H5 at *
            refine ⟨T, _, rfl, SqT.of hTT, rfl, _, _, rfl, _, _, rfl, rfl, ?_⟩
            refine ⟨_, rfl, _, _, rfl, rfl, ⟨by decide, by decide, by decide⟩, by show 8 ≤ sizeLine; decide, fun L8 hL8 => ?_⟩
            have s6 := same_new (o := .lst (sz8.map vN)) hL8
            refine ⟨c, L8, sz8, rfl, upd_same, by decide, by decide, fun H7 q ds s7 hq hds hP => ?_⟩
            have ld : ds.length = 8 := Paired.length hP
            have s57 := s6.trans s7
            obtain ⟨d0, d1, d2, d3, d4, d5, d6, d7, rfl⟩ : ∃ d0 d1 d2 d3 d4 d5 d6 d7, ds = [d0, d1, d2, d3, d4, d5, d6, d7] := by
              match ds, ld with
              | [d0, d1, d2, d3, d4, d5, d6, d7], _ => exact ⟨d0, d1, d2, d3, d4, d5, d6, d7, rfl⟩
            have hd1 : d1 < 5 := by
              cases hP with
              | cons _ t => cases t with
                | cons h _ => exact h
            have hd6 : d6 < 4 := by
              obtain ⟨s, hs1, hs2⟩ := paired_get hP (show [d0, d1, d2, d3, d4, d5, d6, d7][6]? = some d6 from rfl)
              have : s = 4 := (Option.some.inj hs1).symm
              omega
            have hr7 : H7 pr = some (.lst rvs) := s57 _ _ (sT _ _ hrv)
            have hu7 : H7 D3 = some (.lst (us.map V.str)) := s57 _ _ (sT _ _ (sx _ _ hxD))
            refine ⟨by decide, fun pq hpq => ?_⟩
            have s8 := same_new (o := .lst []) hpq
            have hq8 : (upd H7 pq (.lst [])) pq = some (.lst []) := upd_same
            generalize upd H7 pq (.lst []) = H8 at *
            have hds8 : H8 q = some (.lst ([d0, d1, d2, d3, d4, d5, d6, d7].map vN)) := s8 _ _ hds
            refine ⟨_, rfl, _, rfl, _, rfl, q, _, 1, _, rfl, rfl, SqL.of hds8, atI_nat (j := 1) rfl, _, _, rfl, rfl, _, rfl, q, _, rfl, SqL.of hds8, fun l hl => ?_⟩
            have hcut : ∃ ys : List Nat, ys.length ≤ 4 ∧ cutV ([d0, d1, d2, d3, d4, d5, d6, d7].map vN) (some 2) (some (2 + (d1 : Int))) = ys.map vN := by
              refine ⟨(([d0, d1, d2, d3, d4, d5, d6, d7].drop 2).take (min (2 + d1) 8 - 2)), ?_, ?_⟩
              · rw [List.length_take]
                omega
              · unfold cutV
                rw [show (some (2 : Int)) = some ((2 : Nat) : Int) from rfl, show (2 : Int) + (d1 : Int) = ((2 + d1 : Nat) : Int) by omega, HT.sIx_nat, HT.sIx_nat, List.length_map, List.map_take, List.map_drop]
                rfl
            obtain ⟨ys, lys, eys⟩ := hcut
            rw [eys]
            have s9 := same_new (o := .lst (ys.map vN)) hl
            have hl9 : (upd H8 l (.lst (ys.map vN))) l = some (.lst (ys.map vN)) := upd_same
            have hlq : l ≠ pq := fun z => by subst z; rw [hq8] at hl; cases hl
            have hq9 := s9 _ _ hq8
            generalize upd H8 l (.lst (ys.map vN)) = H9 at *
            have s39 : Same H3 H9 := ((sx.trans sT).trans s57).trans (s8.trans s9)
            have hpq3 : H3 pq = none := (((sx.trans sT).trans s57)).free hpq
            have hlb : but H9 pq l = some (.lst (ys.map vN)) := by rw [but_ne hlq]; exact hl9
            have hub : but H9 pq D3 = some (.lst (us.map V.str)) := by
              rw [but_ne (fun z => by subst z; rw [s3.free hpq3 |> fun _ => hu7] at hpq; cases hpq)]
              exact (s8.trans s9) _ _ hu7
            have hqb : but H9 pq q = some (.lst ([d0, d1, d2, d3, d4, d5, d6, d7].map vN)) := by
              rw [but_ne (fun z => by subst z; rw [hds] at hpq; cases hpq)]
              exact s9 _ _ hds8
            have hrb : but H9 pq pr = some (.lst rvs) := by
              rw [but_ne (fun z => by subst z; rw [hr7] at hpq; cases hpq)]
              exact (s8.trans s9) _ _ hr7
            have s3b : Same H3 (but H9 pq) := same_but s39 hpq3
            have tb : TuS H9 (but H9 pq) := fun b xs e => but_of e hq9 (fun z => nomatch z)
            have tR : TuS Hx (but H9 pq) := (TuS.of ((sT.trans s57).trans (s8.trans s9))).trans tb
            refine ⟨l, rfl, ⟨_, SqL.of hl9⟩, for_list (K := K) (a := l) (xs := ys.map vN) (fun j σ Hy => ∃ (o9 : Option V) (ps : List Str), σ = [some (.ref a), some (.ref D1), some (.ref D2), some (.ref D3), some (.ref pr), some (.str hd), some (.int c), some (.ref q), some (.ref pq), o9, none] ∧ Same (but H9 pq) Hy ∧ WL Hy pq ps ∧ ps.length = j ∧ (∀ p ∈ ps, p ∈ wd3 ∨ p ∈ hs))
              ⟨_, [], rfl, but_same, hq9, rfl, fun _ h => absurd h List.not_mem_nil⟩ (fun j σ Hy _ ⟨_, _, _, s, _⟩ => SqL.of (s _ _ hlb)) ?_ ?_⟩
            · rintro j y σ Hy hj ⟨o9, ps, rfl, sy, hps, lps, hpp⟩
              rw [List.getElem?_map] at hj
              cases ej : ys[j]? with
              | none => rw [ej] at hj; cases hj
              | some n =>
                rw [ej] at hj
                cases hj
                have hjl := (List.getElem?_eq_some_iff.mp ej).1
                refine ⟨_, rfl, _, _, rfl, rfl, _, rfl, ?_⟩
                by_cases h3 : n < 3
                · rw [decide_eq_true (show (n : Int) < 3 by omega)]
                  obtain ⟨wd, hw1, hw2⟩ := wd3_get h3
                  refine iteT ⟨_, rfl, .inl ⟨rfl, _, SqL.of hps⟩, by show 3 ≤ sizeLine; decide, fun L3 hL3 => ?_⟩
                  have sL := same_new (o := .lst [.str "a", .str "b", .str "cat"]) hL3
                  have hpL := sL _ _ hps
                  refine ⟨_, rfl, L3, wd3.map V.str, _, _, rfl, rfl, SqL.of upd_same, atI_nat (j := n) (get_str hw1), pq, _, _, rfl, rfl, hpL, small6 (by rw [List.length_map]; omega), _, ps ++ [wd], rfl, same_upd (sy.trans sL) but_none, by unfold WL; rw [upd_same, List.map_append]; rfl, by rw [List.length_append, lps]; rfl, fun p hp => ?_⟩
                  rcases List.mem_append.mp hp with hp | hp
                  · exact hpp p hp
                  · rw [List.mem_singleton.mp hp]; exact .inl hw2
                · rw [decide_eq_false (show ¬ (n : Int) < 3 by omega)]
                  have huy := sy _ _ hub
                  have hmod1 := Int.emod_nonneg ((n : Int) - 3) (show ((us.length : Nat) : Int) ≠ 0 by omega)
                  have hmod2 := Int.emod_lt_of_pos ((n : Int) - 3) (show (0 : Int) < ((us.length : Nat) : Int) by omega)
                  obtain ⟨e, he⟩ : ∃ e : Nat, ((n : Int) - 3) % (us.length : Int) = (e : Int) := ⟨(((n : Int) - 3) % (us.length : Int)).toNat, by omega⟩
                  have hel : e < us.length := by omega
                  refine iteF ⟨_, rfl, .inl ⟨rfl, _, SqL.of hps⟩, _, rfl, _, rfl, _, _, rfl, rfl, _, rfl, D3, _, rfl, .inl (SqL.of huy), _, _, rfl, rfl, by rw [List.length_map]; show (0 : Int) < _; omega, D3, us.map V.str, (e : Int), _, rfl, ?_, SqL.of huy, atI_nat (j := e) (get_str (List.getElem?_eq_getElem hel)), pq, _, _, rfl, rfl, hps, small6 (by rw [List.length_map]; omega), _, ps ++ [us[e]], rfl, same_upd sy but_none, by unfold WL; rw [upd_same, List.map_append]; rfl, by rw [List.length_append, lps]; rfl, fun p hp => ?_⟩
                  · rw [List.length_map]
                    show V.int (((n : Int) - 3) % (us.length : Int)) = _
                    rw [he]
                  · rcases List.mem_append.mp hp with hp | hp
                    · exact hpp p hp
                    · rw [List.mem_singleton.mp hp]; exact .inr (hus _ (List.getElem_mem hel))
            · rintro σ Hy ⟨o9, ps, rfl, sy, hps, lps, hpp⟩
              rw [List.length_map] at lps
              have hry := sy _ _ hrb
              have hqy := sy _ _ hqb
              refine ⟨_, rfl, .inl ⟨rfl, _, SqL.of hry⟩, _, rfl, _, rfl, pq, _, rfl, .inl ⟨SqL.of hps, fun l2 hl2 => ?_⟩⟩
              have sl2 := same_new (o := .tup (ps.map V.str)) hl2
              have hq2 := sl2 _ _ hqy
              refine ⟨_, rfl, q, _, 7, _, rfl, rfl, SqL.of hq2, atI_nat (j := 7) rfl, _, _, rfl, rfl, by show (0 : Int) < 10; decide, _, rfl, q, _, 7, _, rfl, rfl, SqL.of hq2, atI_nat (j := 7) rfl, by show 4 ≤ sizeLine; decide, fun L4 hL4 => ?_⟩
              have sL4 := same_new (o := .lst [.int 0, .int 1, .int ((d7 : Int) % 10), .int (d7 : Int)]) hL4
              obtain ⟨ct, hct0, hct1⟩ : ∃ ct : Int, 0 ≤ ct ∧ ([V.int 0, .int 1, .int ((d7 : Int) % 10), .int (d7 : Int)] : List V)[d6]? = some (.int ct) := by
                match d6, hd6 with
                | 0, _ => exact ⟨0, by omega, rfl⟩
                | 1, _ => exact ⟨1, by omega, rfl⟩
                | 2, _ => exact ⟨(d7 : Int) % 10, by omega, rfl⟩
                | 3, _ => exact ⟨(d7 : Int), by omega, rfl⟩
              refine ⟨_, rfl, q, _, 6, _, rfl, rfl, SqL.of (sL4 _ _ hq2), atI_nat (j := 6) rfl, L4, _, _, _, rfl, rfl, SqL.of upd_same, atI_nat (j := d6) hct1, by show 3 ≤ sizeLine; decide, fun T5 hT5 => ?_⟩
              have sT5 := same_new (o := .tup [.str hd, .ref l2, .int ct]) hT5
              have sA := (sl2.trans sL4).trans sT5
              have hrA := sA _ _ hry
              have hT5r : T5 ≠ pr := fun z => by subst z; rw [(sl2.trans sL4) _ _ hry] at hT5; cases hT5
              refine ⟨pr, rvs, _, rfl, rfl, hrA, small6 (by omega), ?_⟩
              have tL := TuS.lst (u := .lst (rvs ++ [.ref T5])) hrA
              have tAll := ((tR.trans (TuS.of sy)).trans (TuS.of sA)).trans tL
              refine ⟨_, _, _, _, _, G ++ [⟨hd, ps, ct⟩], rfl, same_upd ((s3b.trans sy).trans sA) hprH3, ⟨rvs ++ [.ref T5], upd_same, ?_⟩, ?_, fun r hr => ?_⟩
              · rw [List.map_append]
                refine (hRI.monoT tAll).append (.cons (.tup (by rw [upd_ne hT5r]; exact upd_same) (.cons (.str _) (.cons (.tup (xs := ps.map V.str) ?_ (IsL.strs _)) (.cons (.int _) .nil)))) .nil)
                exact tL _ _ (sT5 _ _ (sL4 _ _ upd_same))
              · rw [List.map_append, hGn, take_succ_of hhd]
                rfl
              · rcases List.mem_append.mp hr with hr | hr
                · exact hGr r hr
                · rw [List.mem_singleton.mp hr]
                  exact ⟨by show ps.length ≤ 4; omega, hpp, hct0⟩
          · rintro σ Hx ⟨o5, o6, o7, o8, o9, G, rfl, sx, hR, hGn, hGr⟩
            have hGn' : G.map Rl.nm = hs := by rw [hGn, ← lhs, List.take_length]
            have lG : G.length = m := by
              have := congrArg List.length hGn'
              rw [List.length_map] at this
              omega
            have hnm : ∀ r ∈ G, r.nm ∈ hs := fun r hr => hGn' ▸ List.mem_map.mpr ⟨r, hr, rfl⟩
            refine ⟨_, rfl, k Hx pr G (s03.trans sx) hprH hR ⟨fun z => by rw [z] at lG; simp at lG; omega, by omega, fun r hr => hhs _ (hnm r hr), fun r hr => (hGr r hr).1, fun r hr p hp => ?_, fun r hr => (hGr r hr).2.2⟩⟩
            rcases (hGr r hr).2.1 p hp with h | h
            · exact .inl h
            · rw [← hGn'] at h
              obtain ⟨r', h1, h2⟩ := List.mem_map.mp h
              exact .inr ⟨r', h1, h2⟩
end
end Rg
namespace Rg
open PySem PySem.Spec L2
def wd4 : List Str := ["a", "b", "cat", "dog"]
def all8 : List Str := ["S", "A", "BB", "C_1", "a", "b", "cat", "dog"]
def abcs : Str := "ABCS"
theorem abcs_isN : ∀ s ∈ all8, ∃ c, s.cps[0]? = some c ∧ isN s = decide (c ∈ abcs.cps.toList) := by
  intro s hs
  simp only [all8, List.mem_cons, List.not_mem_nil, or_false] at hs
  rcases hs with rfl | rfl | rfl | rfl | rfl | rfl | rfl | rfl
  all_goals exact ⟨_, rfl, by decide +kernel⟩
theorem nm4_8 : ∀ s ∈ nm4, s ∈ all8 ∧ isN s = true := by decide +kernel
theorem wd3_8 : ∀ s ∈ wd3, s ∈ all8 ∧ isN s = false := by decide +kernel
theorem wd4_8 : ∀ s ∈ wd4, s ∈ all8 ∧ isN s = false := by decide +kernel
theorem wd3_4 : ∀ s ∈ wd3, s ∈ wd4 := by decide +kernel
theorem all8_w : ∀ s ∈ all8, isN s = false → s ∈ wd4 := by decide +kernel
theorem all8_n : ∀ s ∈ all8, isN s = true → s ∈ nm4 := by decide +kernel
section
variable {P : Program} {w : World} {K : PySem.W.Frag} {mg : Str → Option Value} {base : Heap} {f : Addr} {fd : FuncData}
def sp_law_is_name : Sp := fun vs H Q _ => ∃ s, vs = [.str s] ∧ s ∈ all8 ∧ Q (.bl (isN s)) H
theorem ok_law_is_name (F : Fun K "_law_is_name" "_law_is_name" st_law_is_name f fd) : FnOk P w K mg base CX0 1 f fd ["part"] sp_law_is_name := by
  refine F.ok sc_law_is_name (fun vs H Q E h => ?_) (fun cdv A outer s H vs Q E hr h => ?_)
  · obtain ⟨s, rfl, _⟩ := h
    rfl
  · obtain ⟨x, rfl, hx, q⟩ := h
    refine ⟨_, pss_one (ps_ret (pe_cmpR op_in_sign (pe_item_str (pv 0) pe_int (fun _ _ => rfl)) pe_str rfl)), ?_⟩
    obtain ⟨c, h1, h2⟩ := abcs_isN x hx
    rw [h2] at q
    exact ⟨_, rfl, x, 0, c, rfl, rfl, by decide, by decide, by
      have := (Array.getElem?_eq_some_iff.mp h1).1
      show (0 : Int) < (x.cps.size : Int)
      omega, h1, c, abcs, rfl, rfl, q⟩
def sp_law_row (K : PySem.W.Frag) : Sp := fun vs H Q _ => ∃ (a g : Addr) (ns : List Int) (G : Gr), vs = [.ref a, .ref g, .int 5] ∧ SqL K H a (ns.map V.int) ∧ ns.length ≤ 1000 ∧ LD H g (G.map eRl) ∧ LawG G ∧
  ∀ H' p row, Same H H' → H p = none → WL H' p row → row.length ≤ 5 → (∀ x ∈ row, x ∈ wd4) → Q (.ref p) H'
theorem cutV_ints (ns : List Int) (lo hi : Option Int) : ∃ ms : List Int, cutV (ns.map V.int) lo hi = ms.map V.int ∧ ms.length ≤ ns.length := by
  unfold cutV
  refine ⟨_, by rw [← List.map_drop, ← List.map_take], ?_⟩
  rw [List.length_take, List.length_drop]
  omega
theorem cutV_strs (ws : List Str) (lo hi : Option Int) : ∃ us : List Str, cutV (ws.map V.str) lo hi = us.map V.str ∧ us.length ≤ ws.length ∧ ∀ x ∈ us, x ∈ ws := by
  unfold cutV
  refine ⟨_, by rw [← List.map_drop, ← List.map_take], ?_, fun x hx => List.mem_of_mem_drop (List.mem_of_mem_take hx)⟩
  rw [List.length_take, List.length_drop]
  omega
theorem cutV_5 (ns : List Int) : ∃ ms : List Int, cutV (ns.map V.int) (some 9) (some (9 + 5)) = ms.map V.int ∧ ms.length ≤ 5 := by
  unfold cutV
  rw [show (some (9 : Int)) = some ((9 : Nat) : Int) from rfl, show (some ((9 : Int) + 5)) = some ((14 : Nat) : Int) from rfl, HT.sIx_nat, HT.sIx_nat]
  refine ⟨_, by rw [← List.map_drop, ← List.map_take], ?_⟩
  rw [List.length_take]
  omega
theorem cutV_to5 (ws : List Str) : ∃ us : List Str, cutV (ws.map V.str) none (some 5) = us.map V.str ∧ us.length ≤ 5 ∧ ∀ x ∈ us, x ∈ ws := by
  unfold cutV
  rw [show (some (5 : Int)) = some ((5 : Nat) : Int) from rfl, HT.sIx_nat, HT.sIx_none]
  refine ⟨_, by rw [← List.map_drop, ← List.map_take], ?_, fun x hx => List.mem_of_mem_drop (List.mem_of_mem_take hx)⟩
  rw [List.length_take]
  omega
theorem wd4_get {d : Nat} (h : d < 4) : ∃ x, wd4[d]? = some x ∧ x ∈ wd4 := by
  have : d < wd4.length := h
  exact ⟨wd4[d], List.getElem?_eq_getElem this, List.getElem_mem this⟩
theorem ok_law_row (F : Fun K "_law_row" "_law_row" st_law_row f fd) (B : Bl mg) (Cc : Cal P w K mg base 1 "_law_cell" ["script", "k"] (sp_law_cell K)) (Cd : Cal P w K mg base 2 "_law_drawn" ["cell", "sizes"] sp_law_drawn) (Cn : Cal P w K mg base 1 "_law_is_name" ["part"] sp_law_is_name) :
    FnOk P w K mg base CX0 3 f fd ["script", "rules", "most"] (sp_law_row K) := by
  refine F.ok sc_law_row (fun vs H Q E h => ?_) (fun cdv A outer s H vs Q E hr h => ?_)
  · obtain ⟨a, g, ns, G, rfl, _⟩ := h
    rfl
  · obtain ⟨a, g, ns, G, rfl, ha, hl, hGL, LG, k⟩ := h
    have nd := sc_law_row.nd
    refine ⟨_, pss_cons (ps_set (i := 3) nd rfl (Or.inl rfl) (pe_slice sl_list (pv 0) (po_some pe_int) (po_some (pe_op op_add pe_int (pv 2)))))
      (pss_cons (ps_if (pt_cmpR op_eq (pe_op op_mod (pe_op op_fdiv (pe_cal Cc (hr.mono (by decide)) rfl (pa_cons (pv 0) (pa_cons pe_int pa_nil))) pe_int) pe_int) pe_int (nomark _))
        (pss_one (ps_ret (pe_lc (own := [("cell", 10)]) (g := gName 10) (tt := tYes) rfl nd (pi_list (pv 3))
          (blkOk_by (N := ["script", "rules", "most", "cells", "row", "k", "open_now", "at", "own", "rule", "cell", "word"]) (sc := defScope st_law_row) (by decide +kernel))
          (fun _ _ _ _ _ => pg_name (i := 10) nd rfl (Or.inl rfl)) (fun _ _ _ _ _ => pts_nil)
          (fun _ _ _ _ _ => pe_ix (r := rIxL K) ixL (pe_lst (pa_cons pe_str (pa_cons pe_str (pa_cons pe_str (pa_cons pe_str pa_nil))))) (pe_ix (r := rIxL K) ixL (pe_cal Cd hr rfl (pa_cons (pv 10) (pa_cons (pe_lst (pa_cons pe_int pa_nil)) pa_nil))) pe_int (fun _ _ => rfl)) (fun _ _ => rfl))))) pss_nil)
      (pss_cons (ps_set (i := 4) nd rfl (Or.inr rfl) (pe_lst (pa_cons (pe_ix ix_tup (pe_ix ix_list (pv 1) pe_int (fun _ _ => rfl)) pe_int (fun _ _ => rfl)) pa_nil)))
      (pss_cons (ps_for PassesOwn.never rfl (pi_range1 rfl B.range (pa_cons pe_int pa_nil)) (pg_name (i := 5) nd rfl (Or.inl rfl))
        (pss_cons (ps_setLc (i := 6) (own := [("at", 7)]) (g := gName 7) rfl nd rfl rfl rfl (pi_range1 rfl B.range (pa_cons (pe_len B rfl (pv 4)) pa_nil))
          (blkOk_by (N := ["script", "rules", "most", "cells", "row", "k", "open_now", "at", "own", "rule", "cell", "word"]) (sc := defScope st_law_row) (by decide +kernel))
          (fun _ _ _ _ _ => pg_name (i := 7) nd rfl (Or.inl rfl))
          (fun _ _ _ _ _ => pts_one (pt_val (pe_cal Cn (hr.mono (by decide)) rfl (pa_cons (pe_ix (r := rIxL K) ixL (pv 4) (pv 7) (fun _ _ => rfl)) pa_nil))))
          (fun _ _ _ _ _ => pv 7))
        (pss_one (ps_if (PW.pt (pw_and (pt_cmpR (op_neE hr.units0) (pv 6) (pe_lst pa_nil) (nomark _)) (pw_and1 (pt_cmpR op_lt (pe_len B rfl (pv 4)) (pe_op op_mulW pe_int (pv 2)) (nomark _)))))
          (pss_cons (ps_set (i := 7) nd rfl (Or.inr rfl) (pe_ix ix_list (pv 6) pe_int (fun _ _ => rfl)))
          (pss_cons (ps_setLc (i := 8) (own := [("rule", 9)]) (g := gName 9) rfl nd rfl rfl rfl (pi_list (pv 1))
            (blkOk_by (N := ["script", "rules", "most", "cells", "row", "k", "open_now", "at", "own", "rule", "cell", "word"]) (sc := defScope st_law_row) (by decide +kernel))
            (fun _ _ _ _ _ => pg_name (i := 9) nd rfl (Or.inl rfl))
            (fun _ _ _ _ _ => pts_one (pt_cmpR op_eq (pe_ix (r := rIxT K) ixT (pv 9) pe_int (fun _ _ => rfl)) (pe_ix (r := rIxL K) ixL (pv 4) (pv 7) (fun _ _ => rfl)) (nomark _)))
            (fun _ _ _ _ _ => pv 9))
          (pss_cons (ps_set (i := 9) nd rfl (Or.inl rfl) (pe_ix ix_list (pv 8) (pe_ix ix_list (pe_cal Cd hr rfl (pa_cons (pe_op op_add (pe_cal Cc (hr.mono (by decide)) rfl (pa_cons (pv 0) (pa_cons (pe_op op_add pe_int (pe_op op_mod (pv 5) pe_int)) pa_nil))) (pe_op op_mulW (pe_op op_fdiv (pv 5) pe_int) pe_int)) (pa_cons (pe_lst (pa_cons (pe_len B rfl (pv 8)) pa_nil)) pa_nil))) pe_int (fun _ _ => rfl)) (fun _ _ => rfl)))
          (pss_one (ps_set (i := 4) nd rfl (Or.inr rfl) (pe_op op_cat (pe_op op_cat (pe_slice sl_list (pv 4) po_none (po_some (pv 7))) (pe_callTy (r := rLstOf K) lstOf rfl B.list PyProof.Rows.boot_list (pa_cons (pe_ix ix_tup (pv 9) pe_int (fun _ _ => rfl)) pa_nil))) (pe_slice sl_list (pv 4) (po_some (pe_op op_add (pv 7) pe_int)) po_none))))))) pss_nil))))
      (pss_one (ps_ret (pe_slice sl_list (pe_lc (own := [("word", 11)]) (g := gName 11) rfl nd (pi_list (pv 4))
          (blkOk_by (N := ["script", "rules", "most", "cells", "row", "k", "open_now", "at", "own", "rule", "cell", "word"]) (sc := defScope st_law_row) (by decide +kernel))
          (fun _ _ _ _ _ => pg_name (i := 11) nd rfl (Or.inl rfl))
          (fun _ _ _ _ _ => pts_one (pt_not (pt_val (pe_cal Cn (hr.mono (by decide)) rfl (pa_cons (pv 11) pa_nil)))))
          (fun _ _ _ _ _ => pv 11)) po_none (po_some (pv 2)))))))), ?_⟩
    obtain ⟨gvs, hgv, hG⟩ := hGL
    have hgl := LG.len
    have lg := hG.length
    rw [List.length_map] at lg
    refine ⟨_, rfl, _, rfl, _, rfl, _, _, rfl, rfl, _, rfl, a, _, rfl, ha, fun pc hpc => ?_⟩
    obtain ⟨ms, ems, lms⟩ := cutV_5 ns
    rw [ems]
    have s1 := same_new (o := .lst (ms.map V.int)) hpc
    have hc1 : (upd H pc (.lst (ms.map V.int))) pc = some (.lst (ms.map V.int)) := upd_same
    generalize upd H pc (.lst (ms.map V.int)) = H1 at *
    refine ⟨_, rfl, a, ns, 0, rfl, sql_mono s1 ha, hl, fun c => ⟨_, _, rfl, rfl, ⟨by decide, by decide⟩, _, _, rfl, rfl, by show (0 : Int) < 3; decide, rfl, _, rfl, ?_⟩⟩
    cases decide (V.int (c / 8 % 3) = V.int 0) with
    | true =>
      refine iteT ⟨_, rfl, pc, rfl, ⟨_, SqL.of hc1⟩, fun D2 hD2 => ?_⟩
      have hD2H : H D2 = none := s1.free hD2
      refine lc_list (K := K) (a := pc) (xs := ms.map V.int) (fun i Hx => Same H1 Hx ∧ ∃ hs : List Str, hs.length = i ∧ (∀ x ∈ hs, x ∈ wd4) ∧ Hx D2 = some (.lst (hs.map V.str))) ⟨same_new hD2, [], rfl, fun _ h => absurd h List.not_mem_nil, upd_same⟩ (fun i Hx _ h => SqL.of (h.1 _ _ hc1)) ?_ ?_
      · rintro i x Hx hi ⟨sx, hs, lhs, hhs, hxD⟩
        rw [List.getElem?_map] at hi
        cases ei : ms[i]? with
        | none => rw [ei] at hi; cases hi
        | some c =>
          rw [ei] at hi
          cases hi
          have hil := (List.getElem?_eq_some_iff.mp ei).1
          refine ⟨rfl, ?_⟩
          unfold tYes
          refine iteT ⟨by show 4 ≤ sizeLine; decide, fun L4 hL4 => ⟨_, rfl, by show 1 ≤ sizeLine; decide, fun L1 hL1 => ?_⟩⟩
          have sa := same_new (o := .lst [.str "a", .str "b", .str "cat", .str "dog"]) hL4
          have sb := sa.trans (same_new (o := .lst [.int 4]) hL1)
          have hL4' : (upd (upd Hx L4 (.lst [.str "a", .str "b", .str "cat", .str "dog"])) L1 (.lst [.int 4])) L4 = some (.lst (wd4.map V.str)) := (same_new (o := .lst [.int 4]) hL1) _ _ upd_same
          refine ⟨c, L1, [4], rfl, upd_same, fun s hs => by rw [List.mem_singleton.mp hs]; decide, by decide, fun H' q ds s2 hq hds hP => ?_⟩
          obtain ⟨d, rfl, hd⟩ : ∃ d, ds = [d] ∧ d < 4 := by
            cases hP with
            | cons h t => cases t; exact ⟨_, rfl, h⟩
          obtain ⟨nm, hn1, hn2⟩ := wd4_get hd
          have sc := sb.trans s2
          refine ⟨q, _, 0, _, rfl, rfl, SqL.of hds, atI_nat (j := 0) rfl, L4, _, _, _, rfl, rfl, SqL.of (s2 _ _ hL4'), atI_nat (j := d) (get_str hn1), ?_⟩
          refine ⟨_, sc _ _ hxD, small6 (by rw [List.length_map, lhs]; omega), same_upd (sx.trans sc) hD2, hs ++ [nm], by rw [List.length_append, lhs]; rfl, fun y hy => ?_, by rw [upd_same, List.map_append]; rfl⟩
          rcases List.mem_append.mp hy with hy | hy
          · exact hhs y hy
          · rw [List.mem_singleton.mp hy]; exact hn2
      · rintro H2 ⟨s2, hs, lhs, hhs, hhD⟩
        rw [List.length_map] at lhs
        exact k H2 D2 hs (s1.trans s2) hD2H hhD (by omega) hhs
    | false =>
      refine iteF ?_
      obtain ⟨r0, hr0⟩ : ∃ r0, G[0]? = some r0 := by
        cases hG0 : G with
        | nil => exact absurd hG0 LG.ne
        | cons r0 G' => exact ⟨r0, rfl⟩
      obtain ⟨b0, pa0, hb1, hb0, hpa0⟩ := getRl' hG hr0
      refine ⟨_, rfl, g, gvs, _, _, rfl, rfl, SqL.of (s1 _ _ hgv), atI_nat (j := 0) hb1, b0, _, 0, _, rfl, rfl, SqT.of (s1 _ _ hb0), atI_nat (j := 0) rfl, by show 1 ≤ sizeLine; decide, fun p0 hp0 => ?_⟩
      have s2 := same_new (o := .lst [.str r0.nm]) hp0
      have hp2 : (upd H1 p0 (.lst [.str r0.nm])) p0 = some (.lst [.str r0.nm]) := upd_same
      generalize upd H1 p0 (.lst [.str r0.nm]) = H2 at *
      have s02 := s1.trans s2
      have hx8 : ∀ x, (x ∈ wd3 ∨ ∃ r ∈ G, r.nm = x) → x ∈ all8 := fun x h => by
        rcases h with h | ⟨r, hr, rfl⟩
        · exact (wd3_8 x h).1
        · exact (nm4_8 _ (LG.nm r hr)).1
      refine ⟨_, rfl, by decide, by decide, for_range (lo := 0) (n := 24) (fun i σ Hc => ∃ (p : Addr) (o5 o6 o7 o8 o9 : Option V) (rs : List Str), σ = [some (.ref a), some (.ref g), some (.int 5), some (.ref pc), some (.ref p), o5, o6, o7, o8, o9, none, none] ∧ Same H Hc ∧ WL Hc p rs ∧ rs.length ≤ 22 ∧ (∀ x ∈ rs, x ∈ wd3 ∨ ∃ r ∈ G, r.nm = x))
        ⟨p0, none, none, none, none, none, [r0.nm], rfl, s02, hp2, by show 1 ≤ 22; decide, fun x hx => .inr ⟨r0, List.mem_of_getElem? hr0, (List.mem_singleton.mp hx).symm⟩⟩ ?_ ?_⟩
      · rintro i σ Hc hi ⟨p, o5, o6, o7, o8, o9, rs, rfl, sc, hrs, lrs, hro⟩
        rw [show ((0 : Int) + (i : Int)) = (i : Int) from Int.zero_add _]
        refine ⟨_, rfl, p, _, rfl, .inl (SqL.of hrs), _, rfl, by rw [List.length_map]; omega, by rw [List.length_map]; omega, ?_⟩
        rw [List.length_map, Int.toNat_natCast]
        intro D hD
        have hDH : H D = none := sc.free hD
        refine lc_it (walk_range (lo := 0) (n := rs.length)) (fun j Hx => Same Hc Hx ∧ ∃ js : List Nat, js.length ≤ j ∧ (∀ y ∈ js, ∃ x, rs[y]? = some x ∧ isN x = true) ∧ Hx D = some (.lst (js.map vN))) ⟨same_new hD, [], Nat.zero_le _, fun _ h => absurd h List.not_mem_nil, upd_same⟩ (fun j Hx _ h => True.intro) ?_ ?_
        · rintro j x Hx Hx' hj ⟨sx, js, ljs, hjs, hxD⟩ ⟨rfl, ex⟩
          have ex' : x = V.int (j : Int) := by
            rw [ex]
            show V.int (0 + (j : Int)) = _
            rw [Int.zero_add]
          subst ex'
          clear ex
          obtain ⟨y, hy⟩ : ∃ y, rs[j]? = some y := ⟨_, List.getElem?_eq_getElem hj⟩
          refine ⟨rfl, ?_⟩
          refine ⟨_, rfl, _, rfl, p, _, _, _, rfl, rfl, SqL.of (sx _ _ hrs), atI_nat (j := j) (get_str hy), y, rfl, hx8 y (hro y (List.mem_of_getElem? hy)), _, rfl, ?_⟩
          cases hn : isN y with
          | false => exact iteF ⟨sx, js, by omega, hjs, hxD⟩
          | true =>
            refine iteT ⟨_, rfl, _, hxD, small6 (by rw [List.length_map]; omega), same_upd sx hD, js ++ [j], by rw [List.length_append, List.length_singleton]; omega, fun z hz => ?_, by rw [upd_same, List.map_append]; rfl⟩
            rcases List.mem_append.mp hz with hz | hz
            · exact hjs z hz
            · rw [List.mem_singleton.mp hz]; exact ⟨y, hy, hn⟩
        · rintro H3 ⟨s3, js, ljs, hjs, hxD⟩
          have hrs3 := s3 _ _ hrs
          have s03 := sc.trans s3
          refine ⟨_, rfl, by decide, fun q hq => ⟨D, q, _, rfl, rfl, SqL.of ((same_new hq) _ _ hxD), SqL.of upd_same, _, rfl, ?_⟩⟩
          have sq := same_new (o := .lst []) hq
          generalize upd H3 q (.lst []) = H4 at *
          have hrs4 := sq _ _ hrs3
          have s04 := s03.trans sq
          cases js with
          | nil => exact iteF (iteF ⟨p, _, _, _, _, _, rs, rfl, s04, hrs4, lrs, hro⟩)
          | cons j0 js' =>
            obtain ⟨x0, hx0, hxn⟩ := hjs j0 List.mem_cons_self
            refine iteT ⟨_, rfl, p, _, rfl, .inl (SqL.of hrs4), _, rfl, _, _, rfl, rfl, wide_mul (a := 2) (b := 3) (by decide) (by decide) (by decide) (by decide) (by decide), _, _, rfl, rfl, _, rfl, ?_⟩
            rw [List.length_map]
            by_cases h10 : rs.length < 10
            · rw [decide_eq_true (show (rs.length : Int) < 2 * 5 by omega)]
              refine iteT ⟨_, rfl, D, _, 0, _, rfl, rfl, SqL.of (sq _ _ hxD), atI_nat (j := 0) rfl, ?_⟩
              refine ⟨_, rfl, g, rfl, ⟨_, SqL.of (s04 _ _ hgv)⟩, fun D2 hD2 => ?_⟩
              refine lc_list (K := K) (a := g) (xs := gvs) (fun j Hx => Same H4 Hx ∧ ∃ os : List Addr, os.length ≤ j ∧ (∀ o ∈ os, ∃ r ∈ G, ∃ pa, H o = some (.tup [.str r.nm, .ref pa, .int r.ct]) ∧ H pa = some (.tup (r.ps.map V.str))) ∧ (∀ r ∈ G.take j, r.nm = x0 → os ≠ []) ∧ Hx D2 = some (.lst (os.map V.ref)))
                ⟨same_new hD2, [], Nat.zero_le _, fun _ h => absurd h List.not_mem_nil, fun r hr => absurd hr (by simp), upd_same⟩ (fun j Hx _ h => SqL.of (h.1 _ _ (s04 _ _ hgv))) ?_ ?_
              · rintro j x Hx hj ⟨sx, os, los, hos, hne, hxD2⟩
                obtain ⟨r, b, pa, hr1, rfl, hb, hpa⟩ := getRl hG hj
                have hjl := (List.getElem?_eq_some_iff.mp hj).1
                have s0x := s04.trans sx
                refine ⟨rfl, ?_⟩
                refine ⟨_, rfl, b, _, 0, _, rfl, rfl, SqT.of (s0x _ _ hb), atI_nat (j := 0) rfl, _, rfl, _, rfl, p, _, _, _, rfl, rfl, SqL.of (sx _ _ hrs4), atI_nat (j := j0) (get_str hx0), rfl, _, rfl, ?_⟩
                by_cases he : r.nm = x0
                · rw [decide_eq_true (by rw [he])]
                  refine iteT ⟨_, rfl, _, hxD2, small6 (by rw [List.length_map]; omega), same_upd sx hD2, os ++ [b], by rw [List.length_append, List.length_singleton]; omega, fun o ho => ?_, fun r' _ _ => by simp, by rw [upd_same, List.map_append]; rfl⟩
                  rcases List.mem_append.mp ho with ho | ho
                  · exact hos o ho
                  · rw [List.mem_singleton.mp ho]; exact ⟨r, List.mem_of_getElem? hr1, pa, hb, hpa⟩
                · rw [decide_eq_false (fun z => he (V.str.inj z))]
                  refine iteF ⟨sx, os, by omega, hos, fun r' hr' e' => ?_, hxD2⟩
                  rw [take_succ_of hr1] at hr'
                  rcases List.mem_append.mp hr' with h | h
                  · exact hne r' h e'
                  · rw [List.mem_singleton.mp h] at e'; exact absurd e' he
              · rintro H5 ⟨s5, os, los, hos, hne, hxD2⟩
                rw [lg, List.take_length] at hne
                have hone : os ≠ [] := by
                  rcases hro x0 (List.mem_of_getElem? hx0) with h | ⟨r, hr, e⟩
                  · have := (wd3_8 x0 h).2
                    rw [hxn] at this
                    cases this
                  · exact hne r hr e
                have hol : 0 < os.length := List.length_pos_iff.mpr hone
                have s05 := s04.trans s5
                have hi24 : i < 24 := hi
                refine ⟨_, rfl, _, rfl, _, rfl, _, _, rfl, rfl, by show (0 : Int) < 12; decide, _, _, rfl, rfl, a, ns, _, rfl, sql_mono s05 ha, hl, fun c2 => ⟨_, rfl, _, _, rfl, rfl, ⟨by decide, by decide⟩, _, _, rfl, rfl, wide_mul (a := 10) (b := 13) ?_ (by decide) (by decide) (by decide) (by decide), _, _, rfl, rfl, _, rfl, D2, _, rfl, .inl (SqL.of hxD2), by show 1 ≤ sizeLine; decide, fun L hL => ?_⟩⟩
                · have h1 : ((i : Int) / 12).natAbs ≤ 2 := by omega
                  exact Nat.lt_of_le_of_lt h1 (by decide)
                · have sL := same_new (o := .lst [.int ((os.map V.ref).length : Int)]) hL
                  refine ⟨_, L, [os.length], rfl, ?_, fun s hs => by rw [List.mem_singleton.mp hs]; omega, by show 1 ≤ 8; decide, fun H6 q6 ds s6 hq6 hds hP => ?_⟩
                  · unfold NL
                    rw [upd_same, List.length_map]
                    rfl
                  obtain ⟨d, rfl, hd⟩ : ∃ d, ds = [d] ∧ d < os.length := by
                    cases hP with
                    | cons h t => cases t; exact ⟨_, rfl, h⟩
                  have s56 := sL.trans s6
                  have hxD6 := s56 _ _ hxD2
                  obtain ⟨r, hrG, pa, hb, hpa⟩ := hos _ (List.getElem_mem hd)
                  have hod : (os.map V.ref)[d]? = some (.ref os[d]) := by rw [List.getElem?_map, List.getElem?_eq_getElem hd]; rfl
                  have s06 := s05.trans s56
                  generalize os[d] = b at *
                  refine ⟨q6, _, 0, _, rfl, rfl, SqL.of hds, atI_nat (j := 0) rfl, D2, _, _, _, rfl, rfl, SqL.of hxD6, atI_nat (j := d) hod, ?_⟩
                  have hrs6 : H6 p = some (.lst (rs.map V.str)) := s56 _ _ (s5 _ _ hrs4)
                  refine ⟨_, rfl, _, rfl, _, rfl, p, _, rfl, SqL.of hrs6, fun l1 hl1 => ?_⟩
                  obtain ⟨u1, eu1, lu1, hu1⟩ := cutV_strs rs none (some (j0 : Int))
                  rw [eu1]
                  have t1 := same_new (o := .lst (u1.map V.str)) hl1
                  have hl1' : (upd H6 l1 (.lst (u1.map V.str))) l1 = some (.lst (u1.map V.str)) := upd_same
                  generalize upd H6 l1 (.lst (u1.map V.str)) = H7 at *
                  refine ⟨_, rfl, b, _, 1, _, rfl, rfl, SqT.of ((s06.trans t1) _ _ hb), atI_nat (j := 1) rfl, pa, _, rfl, .inr (SqT.of ((s06.trans t1) _ _ hpa)), fun l2 hl2 => ?_⟩
                  have t2 := same_new (o := .lst (r.ps.map V.str)) hl2
                  have hl2' : (upd H7 l2 (.lst (r.ps.map V.str))) l2 = some (.lst (r.ps.map V.str)) := upd_same
                  generalize upd H7 l2 (.lst (r.ps.map V.str)) = H8 at *
                  have lp4 := LG.pl r hrG
                  refine ⟨l1, l2, _, _, rfl, rfl, t2 _ _ hl1', hl2', by rw [List.length_map, List.length_map]; exact small6' (by omega), fun l3 hl3 => ?_⟩
                  have t3 := same_new (o := .lst (u1.map V.str ++ r.ps.map V.str)) hl3
                  have hl3' : (upd H8 l3 (.lst (u1.map V.str ++ r.ps.map V.str))) l3 = some (.lst (u1.map V.str ++ r.ps.map V.str)) := upd_same
                  generalize upd H8 l3 (.lst (u1.map V.str ++ r.ps.map V.str)) = H9 at *
                  have hrs9 := (t1.trans (t2.trans t3)) _ _ hrs6
                  refine ⟨_, rfl, _, rfl, _, _, rfl, rfl, _, rfl, p, _, rfl, SqL.of hrs9, fun l4 hl4 => ?_⟩
                  obtain ⟨u2, eu2, lu2, hu2⟩ := cutV_strs rs (some ((j0 : Int) + 1)) none
                  rw [eu2]
                  have t4 := same_new (o := .lst (u2.map V.str)) hl4
                  have hl4' : (upd H9 l4 (.lst (u2.map V.str))) l4 = some (.lst (u2.map V.str)) := upd_same
                  generalize upd H9 l4 (.lst (u2.map V.str)) = HA at *
                  refine ⟨l3, l4, _, _, rfl, rfl, t4 _ _ hl3', hl4', by rw [List.length_append, List.length_map, List.length_map, List.length_map]; exact small6' (by omega), fun l5 hl5 => ?_⟩
                  have t5 := same_new (o := .lst (u1.map V.str ++ r.ps.map V.str ++ u2.map V.str)) hl5
                  refine ⟨l5, _, _, _, _, _, u1 ++ r.ps ++ u2, rfl, (s06.trans (t1.trans (t2.trans t3))).trans (t4.trans t5), by unfold WL; rw [upd_same, List.map_append, List.map_append], by rw [List.length_append, List.length_append]; omega, fun x hx => ?_⟩
                  rcases List.mem_append.mp hx with hx | hx
                  · rcases List.mem_append.mp hx with hx | hx
                    · exact hro x (hu1 x hx)
                    · exact LG.ps r hrG x hx
                  · exact hro x (hu2 x hx)
            · rw [decide_eq_false (show ¬ (rs.length : Int) < 2 * 5 by omega)]
              exact iteF ⟨p, _, _, _, _, _, rs, rfl, s04, hrs4, lrs, hro⟩
      · rintro σ Hc ⟨p, o5, o6, o7, o8, o9, rs, rfl, sc, hrs, lrs, hro⟩
        refine ⟨_, rfl, p, rfl, ⟨_, SqL.of hrs⟩, fun D hD => ?_⟩
        have hDH : H D = none := sc.free hD
        refine lc_list (K := K) (a := p) (xs := rs.map V.str) (fun i Hx => Same Hc Hx ∧ ∃ ws : List Str, ws.length ≤ i ∧ (∀ x ∈ ws, x ∈ wd4) ∧ Hx D = some (.lst (ws.map V.str))) ⟨same_new hD, [], Nat.zero_le _, fun _ h => absurd h List.not_mem_nil, upd_same⟩ (fun i Hx _ h => SqL.of (h.1 _ _ hrs)) ?_ ?_
        · rintro i x Hx hi ⟨sx, ws, lws, hws, hxD⟩
          rw [List.getElem?_map] at hi
          cases ei : rs[i]? with
          | none => rw [ei] at hi; cases hi
          | some y =>
            rw [ei] at hi
            cases hi
            have hil := (List.getElem?_eq_some_iff.mp ei).1
            have hy8 := hx8 y (hro y (List.mem_of_getElem? ei))
            refine ⟨rfl, ?_⟩
            refine ⟨_, rfl, y, rfl, hy8, _, rfl, ?_⟩
            cases hn : isN y with
            | true => exact iteF ⟨sx, ws, by omega, hws, hxD⟩
            | false =>
              refine iteT ⟨_, rfl, _, hxD, small6 (by rw [List.length_map]; omega), same_upd sx hD, ws ++ [y], by rw [List.length_append, List.length_singleton]; omega, fun z hz => ?_, by rw [upd_same, List.map_append]; rfl⟩
              rcases List.mem_append.mp hz with hz | hz
              · exact hws z hz
              · rw [List.mem_singleton.mp hz]; exact all8_w y hy8 hn
        · rintro Hx ⟨sx, ws, lws, hws, hxD⟩
          refine ⟨_, rfl, _, rfl, D, _, rfl, SqL.of hxD, fun l hl => ?_⟩
          obtain ⟨us, eus, lus, hus⟩ := cutV_to5 ws
          rw [eus]
          have sl := same_new (o := .lst (us.map V.str)) hl
          exact k _ l us ((sc.trans sx).trans sl) ((sc.trans sx).free hl) upd_same lus fun x hx => hws x (hus x hx)
end
end Rg
namespace Rg
open PySem PySem.Spec L2
theorem RTs_append {G : Gr} {row : List Str} : ∀ {ps qs : List Str} {i k j : Nat} {cs ds : List Nd}, RTs G row ps i k cs → RTs G row qs k j ds → RTs G row (ps ++ qs) i j (cs ++ ds)
  | _, _, _, _, _, _, _, .nil i, h => h
  | _, _, _, _, _, _, _, .word h1 h2 h3, h => .word h1 h2 (RTs_append h3 h)
  | _, _, _, _, _, _, _, .name h1 h2 h3, h => .name h1 h2 (RTs_append h3 h)
theorem RTs_split {G : Gr} {row : List Str} : ∀ {ps qs : List Str} {i j : Nat} {cs : List Nd}, RTs G row (ps ++ qs) i j cs → ∃ k c1 c2, cs = c1 ++ c2 ∧ RTs G row ps i k c1 ∧ RTs G row qs k j c2
  | [], qs, i, j, cs, h => ⟨i, [], cs, rfl, .nil i, h⟩
  | x :: ps, qs, i, j, cs, h => by
    cases h with
    | word h1 h2 h3 =>
      obtain ⟨k, c1, c2, rfl, a, b⟩ := RTs_split h3
      exact ⟨k, _ :: c1, c2, rfl, .word h1 h2 a, b⟩
    | name h1 h2 h3 =>
      obtain ⟨k, c1, c2, rfl, a, b⟩ := RTs_split h3
      exact ⟨k, _ :: c1, c2, rfl, .name h1 h2 a, b⟩
theorem preS_words {G : Gr} {row : List Str} : ∀ {ps : List Str} {i j : Nat} {cs : List Nd}, RTs G row ps i j cs → (∀ x ∈ ps, isN x = false) → preS cs = []
  | _, _, _, _, .nil i, _ => by simp [preS]
  | _, _, _, _, .word h1 h2 h3, h => by
    simp only [preS, preN, List.nil_append]
    exact preS_words h3 fun y hy => h y (List.mem_cons_of_mem _ hy)
  | _, _, _, _, .name h1 h2 h3, h => by
    have := h _ List.mem_cons_self
    rw [h1] at this
    cases this
theorem RTs_row {G : Gr} {row : List Str} : ∀ (ws : List Str) (i : Nat), row.drop i = ws → (∀ x ∈ ws, isN x = false) → RTs G row ws i (i + ws.length) (ws.map Nd.wd)
  | [], i, _, _ => .nil i
  | x :: ws, i, h, hn => by
    have hx : row[i]? = some x := by
      have h1 := congrArg (fun l => l[0]?) h
      simpa using h1
    have hd : row.drop (i + 1) = ws := by
      have := congrArg List.tail h
      rwa [List.tail_drop] at this
    have ih := RTs_row (G := G) ws (i + 1) hd fun y hy => hn y (List.mem_cons_of_mem _ hy)
    rw [show i + (x :: ws).length = i + 1 + ws.length by rw [List.length_cons]; omega]
    exact .word (hn x List.mem_cons_self) hx ih
theorem preS_wd : ∀ ws : List Str, preS (ws.map Nd.wd) = []
  | [] => by simp [preS]
  | x :: ws => by simp [preS, preN, preS_wd ws]
/-- what a form that waits stands for -/
def Good (G : Gr) (row : List Str) (s0 : Str) (w : List Nat × List Str) : Prop := ∀ cs, RTs G row w.2 0 row.length cs → ∃ t, RT G row s0 0 row.length t ∧ preN t = w.1 ++ preS cs
theorem Good.start {G : Gr} {row : List Str} {s0 : Str} (h : isN s0 = true) : Good G row s0 ([], [s0]) := by
  intro cs hcs
  cases hcs with
  | word h1 _ _ => rw [h] at h1; cases h1
  | name _ h2 h3 =>
    cases h3
    exact ⟨_, h2, by simp [preS]⟩
theorem Good.go {G : Gr} {row : List Str} {s0 x : Str} {ns : List Nat} {ws rest : List Str} (h : Good G row s0 (ns, ws ++ x :: rest)) (hw : ∀ y ∈ ws, isN y = false) (hx : isN x = true) {k : Nat} {r : Rl} (hr : G[k]? = some r) (hn : r.nm = x) :
    Good G row s0 (ns ++ [k], ws ++ r.ps ++ rest) := by
  intro cs hcs
  obtain ⟨m, c1, c3, rfl, h1, h3⟩ := RTs_split hcs
  obtain ⟨l, c1, c2, rfl, h1, h2⟩ := RTs_split h1
  have ht : RT G row x l m (.nd k c2) := hn ▸ RT.mk hr h2
  obtain ⟨t, ht1, ht2⟩ := h (c1 ++ .nd k c2 :: c3) (RTs_append h1 (.name hx ht h3))
  refine ⟨t, ht1, ?_⟩
  have e1 := preS_words h1 hw
  rw [ht2, preS_append, preS_append, preS_append, e1]
  simp [preS, preN]
theorem Good.done {G : Gr} {row : List Str} {s0 : Str} {ns : List Nat} (h : Good G row s0 (ns, row)) (hw : ∀ x ∈ row, isN x = false) : ∃ t, RT G row s0 0 row.length t ∧ preN t = ns := by
  have h1 := RTs_row (G := G) (row := row) row 0 rfl hw
  rw [Nat.zero_add] at h1
  obtain ⟨t, a, b⟩ := h _ h1
  exact ⟨t, a, by rw [b, preS_wd, List.append_nil]⟩
theorem eqv_strs : ∀ a b : List Str, PyData.eqvAll (a.map .str) (b.map .str) = decide (a = b)
  | [], [] => rfl
  | [], _ :: _ => rfl
  | _ :: _, [] => rfl
  | x :: a, y :: b => by
    rw [List.map_cons, List.map_cons, PyData.eqvAll, eqv_strs a b, PyData.eqv]
    by_cases h1 : x = y
    · subst h1
      by_cases h2 : a = b
      · subst h2; simp
      · simp [h2]
    · simp [h1]
theorem cutV_take (ws : List Str) (j : Nat) : cutV (ws.map V.str) none (some (j : Int)) = (ws.take j).map V.str := by
  unfold cutV
  rw [HT.sIx_none, HT.sIx_nat, List.drop_zero, List.length_map, Nat.sub_zero, List.map_take, List.take_eq_take_iff]
  rw [List.length_map]
  omega
theorem cutV_drop (ws : List Str) (j : Nat) : cutV (ws.map V.str) (some (j : Int)) none = (ws.drop j).map V.str := by
  unfold cutV
  rw [HT.sIx_none, HT.sIx_nat, List.length_map]
  rcases Nat.le_total j ws.length with h | h
  · rw [Nat.min_eq_left h, List.take_of_length_le (by rw [List.length_drop, List.length_map]; omega), List.map_drop]
  · rw [Nat.min_eq_right h, List.drop_eq_nil_of_le (by rw [List.length_map]; omega), List.drop_eq_nil_of_le h]
    simp
theorem split_rest {C B G : Prop} (h1 : (C → B) → G) (h2 : C → B) : G := h1 h2
def NV (H : Hp) (v : V) (ns : List Nat) : Prop := ∃ na, v = .ref na ∧ NL H na ns
def LL (H : Hp) (p : Addr) (Fs : List (List Nat)) : Prop := ∃ vs, H p = some (.lst vs) ∧ Paired (NV H) vs Fs
theorem NV.mono {H H' : Hp} (s : Same H H') {v : V} {ns : List Nat} (h : NV H v ns) : NV H' v ns := let ⟨a, e, q⟩ := h; ⟨a, e, s _ _ q⟩
theorem LL.mono {H H' : Hp} (s : Same H H') {p : Addr} {Fs : List (List Nat)} (h : LL H p Fs) : LL H' p Fs := let ⟨vs, a, b⟩ := h; ⟨vs, s _ _ a, b.mono fun _ _ q => q.mono s⟩
def WV (H : Hp) (v : V) (w : List Nat × List Str) : Prop := ∃ T na fa, v = .ref T ∧ H T = some (.tup [.ref na, .ref fa]) ∧ NL H na w.1 ∧ WL H fa w.2
theorem WV.mono {H H' : Hp} (s : Same H H') {v : V} {w : List Nat × List Str} (h : WV H v w) : WV H' v w := let ⟨T, na, fa, e, a, b, c⟩ := h; ⟨T, na, fa, e, s _ _ a, s _ _ b, s _ _ c⟩
theorem all8_ok : ∀ s ∈ all8, PyData.strOk s = true := by decide +kernel
structure GI (G : Gr) (row : List Str) (s0 : Str) (H : Hp) (pw : Addr) (kk : Nat) (pf : Addr) (st : Nat) (us : List V) (Ws : List (List Nat × List Str)) (Fs : List (List Nat)) (Hc : Hp) : Prop where
  kk : kk + st = 200
  same : Same H Hc
  w : Hc pw = some (.lst us)
  wi : Paired (WV (but Hc pw)) us Ws
  fi : LL (but Hc pw) pf Fs
  good : ∀ x ∈ Ws, Good G row s0 x ∧ (∀ y ∈ x.2, y ∈ all8) ∧ x.2.length ≤ 1 + 4 * st ∧ x.1.length ≤ st
  wl : Ws.length ≤ 1 + 8 * st
  fs : ∀ x ∈ Fs, ∃ t, RT G row s0 0 row.length t ∧ preN t = x
  fl : Fs.length ≤ st
  fn : ∀ x ∈ Fs, x.length ≤ 200
section
variable {P : Program} {w : World} {K : PySem.W.Frag} {mg : Str → Option Value} {base : Heap} {f : Addr} {fd : FuncData}
def sp_law_grown : Sp := fun vs H Q _ => ∃ (g ra : Addr) (G : Gr) (row : List Str) (r0 : Rl), vs = [.ref g, .ref ra, .int 200] ∧ LD H g (G.map eRl) ∧ WL H ra row ∧ G.length ≤ 8 ∧ row.length ≤ 5 ∧ (∀ r ∈ G, r.nm ∈ all8 ∧ isN r.nm = true ∧ r.ps.length ≤ 4 ∧ ∀ p ∈ r.ps, p ∈ all8) ∧ (∀ x ∈ row, x ∈ all8 ∧ isN x = false) ∧ G[0]? = some r0 ∧
  ∀ H' p Fs, Same H H' → LL H' p Fs → (∀ x ∈ Fs, ∃ t, RT G row r0.nm 0 row.length t ∧ preN t = x) → Fs.length ≤ 200 → (∀ x ∈ Fs, x.length ≤ 200) → Q (.ref p) H'
theorem ok_law_grown (F : Fun K "_law_grown" "_law_grown" st_law_grown f fd) (B : Bl mg) (Cn : Cal P w K mg base 1 "_law_is_name" ["part"] sp_law_is_name) : FnOk P w K mg base CX0 2 f fd ["rules", "row", "most"] sp_law_grown := by
  refine F.ok sc_law_grown (fun vs H Q E h => ?_) (fun cdv A outer s H vs Q E hr h => ?_)
  · obtain ⟨g, ra, G, row, r0, rfl, _⟩ := h
    rfl
  · obtain ⟨g, ra, G, row, r0, rfl, ⟨gvs, hgv, hG⟩, hrow, hgl, hrl, hGr, hrw, hr0, k⟩ := h
    have nd := sc_law_grown.nd
    refine ⟨_, pss_cons (ps_set (i := 3) nd rfl (Or.inl rfl) (pe_lst (pa_cons (pe_tup (pa_cons (pe_lst pa_nil) (pa_cons (pe_lst (pa_cons (pe_ix ix_tup (pe_ix ix_list (pv 0) pe_int (fun _ _ => rfl)) pe_int (fun _ _ => rfl)) pa_nil)) pa_nil))) pa_nil)))
      (pss_cons (ps_set (i := 4) nd rfl (Or.inl rfl) (pe_lst pa_nil))
      (pss_cons (ps_set (i := 5) nd rfl (Or.inl rfl) pe_int)
      (pss_cons (ps_while PassesOwn.never (PW.pt (pw_and (pt_cmpR (op_neE hr.units0) (pv 3) (pe_lst pa_nil) (nomark _)) (pw_and1 (pt_cmpR op_lt (pv 5) (pv 2) (nomark _)))))
        (pss_cons (ps_set (i := 5) nd rfl (Or.inl rfl) (pe_op op_add (pv 5) pe_int))
        (pss_cons (ps_asg (pe_popAt (pv 3) pe_int) (pg_tup rfl (pgs_cons (pg_name (i := 6) nd rfl (Or.inl rfl)) (pgs_cons (pg_name (i := 7) nd rfl (Or.inl rfl)) pgs_nil))))
        (pss_cons (ps_set (i := 8) nd rfl (Or.inl rfl) pe_int)
        (pss_cons (ps_while PassesOwn.never (PW.pt (pw_and (pt_cmpR op_lt (pv 8) (pe_len B rfl (pv 7)) (nomark _)) (pw_and1 (pt_not (pt_val (pe_cal Cn (hr.mono (by decide)) rfl (pa_cons (pe_ix ix_list (pv 7) (pv 8) (fun _ _ => rfl)) pa_nil)))))))
          (pss_one (ps_set (i := 8) nd rfl (Or.inl rfl) (pe_op op_add (pv 8) pe_int))))
        (pss_one (ps_if (PW.pt (pw_and (pt_cmpR (op_eqD hr.units) (pe_slice sl_list (pv 7) po_none (po_some (pv 8))) (pe_slice sl_list (pv 1) po_none (po_some (pv 8))) (nomark _)) (pw_and1 (pt_cmpR op_le (pv 8) (pe_len B rfl (pv 1)) (nomark _)))))
          (pss_one (ps_if (pt_cmpR op_eq (pv 8) (pe_len B rfl (pv 7)) (nomark _))
            (pss_one (ps_set (i := 4) nd rfl (Or.inl rfl) (pe_op op_cat (pv 4) (pe_op op_rep (pe_lst (pa_cons (pv 6) pa_nil)) (pe_callTy call_int1 rfl B.int PyProof.Rows.boot_int (pa_cons (pe_cmpR op_eq (pv 8) (pe_len B rfl (pv 1)) (nomark _)) pa_nil))))))
            (pss_one (ps_for PassesOwn.never rfl (pi_range1 rfl B.range (pa_cons (pe_len B rfl (pv 0)) pa_nil)) (pg_name (i := 9) nd rfl (Or.inl rfl))
              (pss_one (ps_if (pt_cmpR op_eq (pe_ix ix_tup (pe_ix ix_list (pv 0) (pv 9) (fun _ _ => rfl)) pe_int (fun _ _ => rfl)) (pe_ix ix_list (pv 7) (pv 8) (fun _ _ => rfl)) (nomark _))
                (pss_cons (ps_set (i := 10) nd rfl (Or.inl rfl) (pe_op op_cat (pe_slice sl_list (pv 7) po_none (po_some (pv 8))) (pe_callTy (r := rLstOf K) lstOf rfl B.list PyProof.Rows.boot_list (pa_cons (pe_ix ix_tup (pe_ix ix_list (pv 0) (pv 9) (fun _ _ => rfl)) pe_int (fun _ _ => rfl)) pa_nil))))
                (pss_one (ps_expr (pe_app (pv 3) (pe_tup (pa_cons (pe_op op_cat (pv 6) (pe_lst (pa_cons (pv 9) pa_nil))) (pa_cons (pe_op op_cat (pv 10) (pe_slice sl_list (pv 7) (po_some (pe_op op_add (pv 8) pe_int)) po_none)) pa_nil))))))) pss_nil))))))
          pss_nil)))))))
      (pss_one (ps_ret (pv 4)))))), ?_⟩
    have lg := hG.length
    rw [List.length_map] at lg
    obtain ⟨b0, pa0, hb1, hb0, hpa0⟩ := getRl' hG hr0
    have hr0G := List.mem_of_getElem? hr0
    refine ⟨by decide, fun n0 hn0 => ?_⟩
    have s1 := same_new (o := .lst []) hn0
    refine ⟨_, rfl, g, gvs, _, _, rfl, rfl, SqL.of (s1 _ _ hgv), atI_nat (j := 0) hb1, b0, _, 0, _, rfl, rfl, SqT.of (s1 _ _ hb0), atI_nat (j := 0) rfl, by show 1 ≤ sizeLine; decide, fun f0 hf0 => ⟨by show 2 ≤ sizeLine; decide, fun T0 hT0 => ⟨by show 1 ≤ sizeLine; decide, fun pw hpw => ⟨by decide, fun pf0 hpf0 => ?_⟩⟩⟩⟩
    have s2 := s1.trans (same_new (o := .lst [.str r0.nm]) hf0)
    have s3 := s2.trans (same_new (o := .tup [.ref n0, .ref f0]) hT0)
    have hpwH : H pw = none := s3.free hpw
    have hwf : pw ≠ pf0 := fun z => by subst z; rw [upd_same] at hpf0; cases hpf0
    have e3n : (upd (upd (upd H n0 (.lst [])) f0 (.lst [.str r0.nm])) T0 (.tup [.ref n0, .ref f0])) n0 = some (.lst []) := (same_new (o := .tup [.ref n0, .ref f0]) hT0) _ _ ((same_new (o := .lst [.str r0.nm]) hf0) _ _ upd_same)
    have e3f : (upd (upd (upd H n0 (.lst [])) f0 (.lst [.str r0.nm])) T0 (.tup [.ref n0, .ref f0])) f0 = some (.lst [.str r0.nm]) := (same_new (o := .tup [.ref n0, .ref f0]) hT0) _ _ upd_same
    have e3T : (upd (upd (upd H n0 (.lst [])) f0 (.lst [.str r0.nm])) T0 (.tup [.ref n0, .ref f0])) T0 = some (.tup [.ref n0, .ref f0]) := upd_same
    generalize upd (upd (upd H n0 (.lst [])) f0 (.lst [.str r0.nm])) T0 (.tup [.ref n0, .ref f0]) = H3 at *
    have s35 := (same_new (o := .lst [.ref T0]) hpw).trans (same_new (o := .lst []) hpf0)
    have e5w : (upd (upd H3 pw (.lst [.ref T0])) pf0 (.lst [])) pw = some (.lst [.ref T0]) := by rw [upd_ne hwf]; exact upd_same
    have e5f : (upd (upd H3 pw (.lst [.ref T0])) pf0 (.lst [])) pf0 = some (.lst []) := upd_same
    generalize upd (upd H3 pw (.lst [.ref T0])) pf0 (.lst []) = H5 at *
    have sb : Same H3 (but H5 pw) := same_but s35 hpw
    refine ⟨fun kk σ Hc => ∃ (pf : Addr) (st : Nat) (us : List V) (Ws : List (List Nat × List Str)) (Fs : List (List Nat)) (o6 o7 o8 o9 o10 : Option V), σ = [some (.ref g), some (.ref ra), some (.int 200), some (.ref pw), some (.ref pf), some (.int (st : Int)), o6, o7, o8, o9, o10] ∧ GI G row r0.nm H pw kk pf st us Ws Fs Hc,
      ⟨200, pf0, 0, [.ref T0], [([], [r0.nm])], [], _, _, _, _, _, rfl, ⟨rfl, s3.trans s35, e5w, .cons ⟨T0, n0, f0, rfl, sb _ _ e3T, sb _ _ e3n, sb _ _ e3f⟩ .nil, ⟨[], by rw [but_ne (Ne.symm hwf)]; exact e5f, .nil⟩, fun x hx => ?_, by show 1 ≤ 1; omega, fun _ h => absurd h List.not_mem_nil, Nat.le_refl _, fun _ h => absurd h List.not_mem_nil⟩⟩, ?_⟩
    · rw [List.mem_singleton.mp hx]
      exact ⟨Good.start (hGr r0 hr0G).2.1, fun y hy => by rw [List.mem_singleton.mp hy]; exact (hGr r0 hr0G).1, Nat.le_refl _, Nat.le_refl _⟩
    rintro kk σ Hc ⟨pf, st, us, Ws, Fs, o6, o7, o8, o9, o10, rfl, I⟩
    refine ⟨_, rfl, by decide, fun q hq => ⟨pw, q, us, rfl, rfl, SqL.of ((same_new hq) _ _ I.w), SqL.of upd_same, _, rfl, ?_⟩⟩
    have sq := same_new (o := .lst []) hq
    generalize hH4 : upd Hc q (.lst []) = H4 at *
    have hkk := I.kk
    cases us with
    | nil => exact iteF (iteF ⟨_, rfl, k H4 pf Fs (I.same.trans sq) ((I.fi.mono but_same).mono sq) I.fs (by have := I.fl; omega) I.fn⟩)
    | cons u0 us' =>
      refine iteT ⟨_, rfl, _, rfl, _, _, rfl, rfl, _, rfl, ?_⟩
      by_cases h200 : st < 200
      · rw [decide_eq_true (show (st : Int) < 200 by omega)]
        refine iteT ⟨fun σ' H' => ∃ m', m' < kk ∧ ∃ (pf : Addr) (st : Nat) (us : List V) (Ws : List (List Nat × List Str)) (Fs : List (List Nat)) (o6 o7 o8 o9 o10 : Option V), σ' = [some (.ref g), some (.ref ra), some (.int 200), some (.ref pw), some (.ref pf), some (.int (st : Int)), o6, o7, o8, o9, o10] ∧ GI G row r0.nm H pw m' pf st us Ws Fs H', fun σ' H' h => h, ?_⟩
        obtain ⟨_, sc, hcw, hWI, hFI, hgood, hwl, hfs, hfl, hfn⟩ := I
        cases hWI with
        | @cons _ w0 _ Ws' hw0 hWs' =>
          obtain ⟨T, na, fa, rfl, hT, hna, hfa⟩ := hw0
          obtain ⟨hgd, h8, hll, hnl⟩ := hgood w0 List.mem_cons_self
          obtain ⟨nums, form⟩ := w0
          have hnl' : nums.length ≤ st := hnl
          have hll' : form.length ≤ 1 + 4 * st := hll
          have h4w := sq _ _ hcw
          have hbn : ∀ {b o}, but Hc pw b = some o → b ≠ pw := fun e z => by subst z; rw [but_none] at e; cases e
          have sbH : Same H (but Hc pw) := same_but sc hpwH
          have s6 : Same (but Hc pw) (upd H4 pw (.lst us')) := same_upd (but_same.trans sq) but_none
          have h6w : (upd H4 pw (.lst us')) pw = some (.lst us') := upd_same
          refine ⟨_, rfl, _, _, rfl, rfl, _, rfl, .inl ⟨rfl, _, SqL.of h4w⟩, pw, _, 0, 0, _, rfl, rfl, h4w, by decide, by decide, by simp [seqIndex?], rfl, ?_⟩
          show gTup K 2 _ _ _ (upd H4 pw (.lst us')) _
          generalize upd H4 pw (.lst us') = H6 at *
          have hT6 := s6 _ _ hT
          have hn6 : H6 na = some (.lst (nums.map vN)) := s6 _ _ hna
          have hf6 : H6 fa = some (.lst (form.map V.str)) := s6 _ _ hfa
          have sH6 : Same H H6 := sbH.trans s6
          refine ⟨T, _, rfl, SqT.of hT6, rfl, _, _, rfl, _, _, rfl, rfl, ?_⟩
          -- while done < len(open_now)
          refine ⟨fun k2 σ Hx => ∃ j : Nat, σ = [some (.ref g), some (.ref ra), some (.int 200), some (.ref pw), some (.ref pf), some (.int ((st : Int) + 1)), some (.ref na), some (.ref fa), some (.int (j : Int)), o9, o10] ∧ Hx = H6 ∧ k2 + j = form.length ∧ (∀ i x, i < j → form[i]? = some x → isN x = false),
            ⟨form.length, 0, rfl, rfl, rfl, fun i x h => absurd h (Nat.not_lt_zero _)⟩, ?_⟩
          rintro k2 σ Hx ⟨j, rfl, rfl, hk2, hjw⟩
          have hmoreW : ∀ x ∈ Ws', Good G row r0.nm x ∧ (∀ y ∈ x.2, y ∈ all8) ∧ x.2.length ≤ 1 + 4 * (st + 1) ∧ x.1.length ≤ st + 1 := fun x hx => by
            obtain ⟨a1, a2, a3, a4⟩ := hgood x (List.mem_cons_of_mem _ hx)
            exact ⟨a1, a2, by omega, by omega⟩
          have hWl' : Ws'.length ≤ 8 * st := by
            rw [List.length_cons] at hwl
            omega
          apply split_rest (C := j = form.length ∨ ∃ x, form[j]? = some x ∧ isN x = true)
          · intro rest
            refine ⟨_, rfl, _, rfl, fa, _, rfl, .inl (SqL.of hf6), _, _, rfl, rfl, _, rfl, ?_⟩
            rw [List.length_map]
            by_cases hj : j < form.length
            · rw [decide_eq_true (show (j : Int) < (form.length : Int) by omega)]
              have hx : form[j]? = some form[j] := List.getElem?_eq_getElem hj
              refine iteT ⟨_, rfl, _, rfl, fa, _, _, _, rfl, rfl, SqL.of hf6, atI_nat (j := j) (get_str hx), form[j], rfl, h8 _ (List.getElem_mem hj), _, rfl, ?_⟩
              cases hn : isN form[j] with
              | true => exact iteF (rest (.inr ⟨_, hx, hn⟩))
              | false =>
                refine iteT ⟨fun σ' H' => ∃ m', m' < k2 ∧ ∃ j : Nat, σ' = [some (.ref g), some (.ref ra), some (.int 200), some (.ref pw), some (.ref pf), some (.int ((st : Int) + 1)), some (.ref na), some (.ref fa), some (.int (j : Int)), o9, o10] ∧ H' = Hx ∧ m' + j = form.length ∧ (∀ i x, i < j → form[i]? = some x → isN x = false), fun σ' H' h => h, ?_⟩
                refine ⟨_, rfl, _, _, rfl, rfl, k2 - 1, by omega, j + 1, rfl, rfl, by omega, fun i x hi hx' => ?_⟩
                by_cases hij : i = j
                · subst hij
                  rw [hx] at hx'
                  cases hx'
                  exact hn
                · exact hjw i x (by omega) hx'
            · rw [decide_eq_false (show ¬ (j : Int) < (form.length : Int) by omega)]
              exact iteF (iteF (rest (.inl (by omega))))
          · intro hjx
            have hrow6 := sH6 _ _ hrow
            have hwords : ∀ y ∈ form.take j, isN y = false := fun y hy => by
              obtain ⟨i, hi⟩ := List.mem_iff_getElem?.mp hy
              have hil : i < j := by
                have := (List.getElem?_eq_some_iff.mp hi).1
                rw [List.length_take] at this
                omega
              rw [List.getElem?_take, if_pos hil] at hi
              exact hjw i y hil hi
            refine ⟨_, rfl, _, rfl, _, rfl, fa, _, rfl, SqL.of hf6, fun l1 hl1 => ?_⟩
            rw [cutV_take]
            have t1 := same_new (o := .lst ((form.take j).map V.str)) hl1
            have e1 : (upd Hx l1 (.lst ((form.take j).map V.str))) l1 = some (.lst ((form.take j).map V.str)) := upd_same
            generalize upd Hx l1 (.lst ((form.take j).map V.str)) = H7 at *
            refine ⟨_, rfl, _, rfl, _, rfl, ra, _, rfl, SqL.of (t1 _ _ hrow6), fun l2 hl2 => ?_⟩
            rw [cutV_take]
            have t2 := same_new (o := .lst ((row.take j).map V.str)) hl2
            have e2 : (upd H7 l2 (.lst ((row.take j).map V.str))) l2 = some (.lst ((row.take j).map V.str)) := upd_same
            generalize upd H7 l2 (.lst ((row.take j).map V.str)) = H8 at *
            have s68 := t1.trans t2
            have sb8 : Same (but Hc pw) H8 := s6.trans s68
            have h8w := s68 _ _ h6w
            have sbb8 : Same (but Hc pw) (but H8 pw) := same_but sb8 but_none
            have keep : GI G row r0.nm H pw (kk - 1) pf (st + 1) us' Ws' Fs H8 := ⟨by omega, sH6.trans s68, h8w, hWs'.mono fun _ _ q => q.mono sbb8, hFI.mono sbb8, hmoreW, by omega, hfs, by omega, hfn⟩
            refine ⟨.list ((form.take j).map .str), .list ((row.take j).map .str), .lst (SqL.of (t2 _ _ e1)) ((IsL.strs _).dp K), .lst (SqL.of e2) ((IsL.strs _).dp K), shp_strs fun x hx => all8_ok x (h8 x (List.mem_of_mem_take hx)), shp_strs fun x hx => all8_ok x (hrw x (List.mem_of_mem_take hx)).1, _, rfl, ?_⟩
            rw [show PyData.eqv (.list ((form.take j).map .str)) (.list ((row.take j).map .str)) = decide (form.take j = row.take j) by rw [PyData.eqv]; exact eqv_strs _ _]
            by_cases hT2 : form.take j = row.take j
            · rw [decide_eq_true hT2]
              refine iteT ⟨_, rfl, _, rfl, ra, _, rfl, .inl (SqL.of (s68 _ _ hrow6)), _, _, rfl, rfl, _, rfl, ?_⟩
              rw [List.length_map]
              by_cases hjr : j ≤ row.length
              · rw [decide_eq_true (show (j : Int) ≤ (row.length : Int) by omega)]
                refine iteT ⟨_, rfl, _, rfl, fa, _, rfl, .inl (SqL.of (s68 _ _ hf6)), rfl, _, rfl, ?_⟩
                rw [List.length_map]
                rcases Nat.lt_or_ge j form.length with hjl | hjl
                · -- a name stands at the place
                  obtain ⟨x, hx, hxn⟩ : ∃ x, form[j]? = some x ∧ isN x = true := by
                    rcases hjx with h | h
                    · omega
                    · exact h
                  rw [decide_eq_false (show ¬ V.int (j : Int) = V.int (form.length : Int) from fun z => by have := V.int.inj z; omega)]
                  refine iteF ⟨_, rfl, g, _, rfl, .inl (SqL.of ((sH6.trans s68) _ _ hgv)), _, rfl, by omega, by omega, ?_⟩
                  rw [Int.toNat_natCast]
                  have hform : form = form.take j ++ x :: form.drop (j + 1) := by
                    have h1 := List.drop_eq_getElem_cons (List.getElem?_eq_some_iff.mp hx).1
                    rw [(List.getElem?_eq_some_iff.mp hx).2] at h1
                    rw [← h1, List.take_append_drop]
                  refine for_range (lo := 0) (n := gvs.length) (fun i σ Hy => ∃ (us2 : List V) (new : List (List Nat × List Str)) (o9 o10 : Option V), σ = [some (.ref g), some (.ref ra), some (.int 200), some (.ref pw), some (.ref pf), some (.int ((st : Int) + 1)), some (.ref na), some (.ref fa), some (.int (j : Int)), o9, o10] ∧ Same (but Hc pw) Hy ∧
                      Hy pw = some (.lst us2) ∧ Paired (WV (but Hy pw)) us2 (Ws' ++ new) ∧ new.length ≤ i ∧ ∀ y ∈ new, Good G row r0.nm y ∧ (∀ z ∈ y.2, z ∈ all8) ∧ y.2.length ≤ 1 + 4 * (st + 1) ∧ y.1.length ≤ st + 1)
                    ⟨us', [], _, _, rfl, sb8, h8w, by rw [List.append_nil]; exact hWs'.mono fun _ _ q => q.mono sbb8, Nat.le_refl _, fun _ h => absurd h List.not_mem_nil⟩ ?_ ?_
                  · rintro i σ Hy hi ⟨us2, new, o9, o10, rfl, sy, hyw, hyI, hnl2, hyg⟩
                    rw [show ((0 : Int) + (i : Int)) = (i : Int) from Int.zero_add _]
                    obtain ⟨r, hr1⟩ : ∃ r, G[i]? = some r := ⟨_, List.getElem?_eq_getElem (by omega)⟩
                    obtain ⟨b, pa, hb1, hb, hpa⟩ := getRl' hG hr1
                    have hrG := List.mem_of_getElem? hr1
                    obtain ⟨hr8, hrn, hrp, hrps⟩ := hGr r hrG
                    have sHy : Same H Hy := sbH.trans sy
                    have lus := Paired.length hyI
                    rw [List.length_append] at lus
                    have hfy : Hy fa = some (.lst (form.map V.str)) := sy _ _ hfa
                    have hny : Hy na = some (.lst (nums.map vN)) := sy _ _ hna
                    refine ⟨_, rfl, _, rfl, g, gvs, _, _, rfl, rfl, SqL.of (sHy _ _ hgv), atI_nat hb1, b, _, 0, _, rfl, rfl, SqT.of (sHy _ _ hb), atI_nat (j := 0) rfl, _, rfl, _, rfl, fa, _, _, _, rfl, rfl, SqL.of hfy, atI_nat (j := j) (get_str hx), rfl, _, rfl, ?_⟩
                    by_cases he : r.nm = x
                    · rw [decide_eq_true (by rw [he])]
                      refine iteT ⟨_, rfl, _, rfl, _, rfl, fa, _, rfl, SqL.of hfy, fun l1 hl1 => ?_⟩
                      rw [cutV_take]
                      have t1 := same_new (o := .lst ((form.take j).map V.str)) hl1
                      have e1 : (upd Hy l1 (.lst ((form.take j).map V.str))) l1 = some (.lst ((form.take j).map V.str)) := upd_same
                      generalize upd Hy l1 (.lst ((form.take j).map V.str)) = HA at *
                      refine ⟨_, rfl, _, rfl, g, gvs, _, _, rfl, rfl, SqL.of ((sHy.trans t1) _ _ hgv), atI_nat hb1, b, _, 1, _, rfl, rfl, SqT.of ((sHy.trans t1) _ _ hb), atI_nat (j := 1) rfl, pa, _, rfl, .inr (SqT.of ((sHy.trans t1) _ _ hpa)), fun l2 hl2 => ?_⟩
                      have t2 := same_new (o := .lst (r.ps.map V.str)) hl2
                      have e2 : (upd HA l2 (.lst (r.ps.map V.str))) l2 = some (.lst (r.ps.map V.str)) := upd_same
                      generalize upd HA l2 (.lst (r.ps.map V.str)) = HB at *
                      have ltk : (form.take j).length = j := by rw [List.length_take]; omega
                      refine ⟨l1, l2, _, _, rfl, rfl, t2 _ _ e1, e2, by rw [List.length_map, List.length_map]; exact small6' (by omega), fun l3 hl3 => ?_⟩
                      have t3 := same_new (o := .lst ((form.take j).map V.str ++ r.ps.map V.str)) hl3
                      have e3 : (upd HB l3 (.lst ((form.take j).map V.str ++ r.ps.map V.str))) l3 = some (.lst ((form.take j).map V.str ++ r.ps.map V.str)) := upd_same
                      generalize upd HB l3 (.lst ((form.take j).map V.str ++ r.ps.map V.str)) = HC at *
                      have tC := t1.trans (t2.trans t3)
                      have hyC := tC _ _ hyw
                      refine ⟨_, rfl, .inl ⟨rfl, _, SqL.of hyC⟩, _, rfl, _, rfl, by show 1 ≤ sizeLine; decide, fun l4 hl4 => ?_⟩
                      have t4 := same_new (o := .lst [.int (i : Int)]) hl4
                      have e4 : (upd HC l4 (.lst [.int (i : Int)])) l4 = some (.lst [.int (i : Int)]) := upd_same
                      generalize upd HC l4 (.lst [.int (i : Int)]) = HD at *
                      refine ⟨na, l4, _, _, rfl, rfl, (tC.trans t4) _ _ hny, e4, by rw [List.length_map]; exact small6' (by show nums.length + 1 ≤ _; omega), fun l5 hl5 => ?_⟩
                      have t5 := same_new (o := .lst (nums.map vN ++ [.int (i : Int)])) hl5
                      have e5 : (upd HD l5 (.lst (nums.map vN ++ [.int (i : Int)]))) l5 = some (.lst (nums.map vN ++ [.int (i : Int)])) := upd_same
                      generalize upd HD l5 (.lst (nums.map vN ++ [.int (i : Int)])) = HE at *
                      have tE := tC.trans (t4.trans t5)
                      refine ⟨_, rfl, _, rfl, _, rfl, _, _, rfl, rfl, _, rfl, fa, _, rfl, SqL.of (tE _ _ hfy), fun l6 hl6 => ?_⟩
                      rw [show (some ((j : Int) + 1)) = some ((j + 1 : Nat) : Int) from rfl, cutV_drop]
                      have t6 := same_new (o := .lst ((form.drop (j + 1)).map V.str)) hl6
                      have e6 : (upd HE l6 (.lst ((form.drop (j + 1)).map V.str))) l6 = some (.lst ((form.drop (j + 1)).map V.str)) := upd_same
                      generalize upd HE l6 (.lst ((form.drop (j + 1)).map V.str)) = HF at *
                      have ldr : (form.drop (j + 1)).length + j + 1 = form.length := by rw [List.length_drop]; omega
                      refine ⟨l3, l6, _, _, rfl, rfl, (t4.trans (t5.trans t6)) _ _ e3, e6, by simp only [List.length_append, List.length_map]; exact small6' (by omega), fun l7 hl7 => ?_⟩
                      have t7 := same_new (o := .lst ((form.take j).map V.str ++ r.ps.map V.str ++ (form.drop (j + 1)).map V.str)) hl7
                      have e7 : (upd HF l7 (.lst ((form.take j).map V.str ++ r.ps.map V.str ++ (form.drop (j + 1)).map V.str))) l7 = some (.lst ((form.take j).map V.str ++ r.ps.map V.str ++ (form.drop (j + 1)).map V.str)) := upd_same
                      generalize upd HF l7 (.lst ((form.take j).map V.str ++ r.ps.map V.str ++ (form.drop (j + 1)).map V.str)) = HG at *
                      refine ⟨by show 2 ≤ sizeLine; decide, fun T9 hT9 => ?_⟩
                      have t9 := same_new (o := .tup [.ref l5, .ref l7]) hT9
                      have e9 : (upd HG T9 (.tup [.ref l5, .ref l7])) T9 = some (.tup [.ref l5, .ref l7]) := upd_same
                      have hwT : (upd HG T9 (.tup [.ref l5, .ref l7])) pw = some (.lst us2) := (tE.trans (t6.trans (t7.trans t9))) _ _ hyw
                      have sAll := tE.trans (t6.trans (t7.trans t9))
                      have e5' := (t6.trans (t7.trans t9)) _ _ e5
                      have e7' := t9 _ _ e7
                      generalize upd HG T9 (.tup [.ref l5, .ref l7]) = HZ at *
                      refine ⟨pw, us2, _, rfl, rfl, hwT, small6 (by omega), ?_⟩
                      have hbut : ∀ {b o}, HZ b = some o → Hy b = none → but (upd HZ pw (.lst (us2 ++ [.ref T9]))) pw b = some o := fun {b o} e en => by
                        have hne : b ≠ pw := fun z => by subst z; rw [hyw] at en; cases en
                        rw [but_ne hne, upd_ne hne]
                        exact e
                      have n5 : Hy l5 = none := (tC.trans t4).free hl5
                      have n7 : Hy l7 = none := (tE.trans t6).free hl7
                      have n9 : Hy T9 = none := (tE.trans (t6.trans t7)).free hT9
                      have sbz : Same (but Hy pw) (but (upd HZ pw (.lst (us2 ++ [.ref T9]))) pw) := same_but (same_upd (but_same.trans sAll) but_none) but_none
                      refine ⟨us2 ++ [.ref T9], new ++ [(nums ++ [i], form.take j ++ r.ps ++ form.drop (j + 1))], _, _, rfl, same_upd (sy.trans sAll) but_none, upd_same, ?_, by rw [List.length_append, List.length_singleton]; omega, fun y hy => ?_⟩
                      · rw [← List.append_assoc]
                        refine (hyI.mono fun _ _ q => q.mono sbz).snoc ⟨T9, l5, l7, rfl, hbut e9 n9, ?_, ?_⟩
                        · unfold NL
                          rw [List.map_append]
                          exact hbut e5' n5
                        · unfold WL
                          rw [List.map_append, List.map_append]
                          exact hbut e7' n7
                      · rcases List.mem_append.mp hy with hy | hy
                        · exact hyg y hy
                        · rw [List.mem_singleton.mp hy]
                          have hgd' : Good G row r0.nm (nums, form.take j ++ x :: form.drop (j + 1)) := by rw [← hform]; exact hgd
                          refine ⟨hgd'.go hwords hxn hr1 he, fun z hz => ?_, ?_, by rw [List.length_append, List.length_singleton]; omega⟩
                          · rcases List.mem_append.mp hz with hz | hz
                            · rcases List.mem_append.mp hz with hz | hz
                              · exact h8 z (List.mem_of_mem_take hz)
                              · exact hrps z hz
                            · exact h8 z (List.mem_of_mem_drop hz)
                          · simp only [List.length_append]
                            have hll' : form.length ≤ 1 + 4 * st := hll
                            omega
                    · rw [decide_eq_false (fun z => he (V.str.inj z))]
                      exact iteF ⟨us2, new, _, _, rfl, sy, hyw, hyI, by omega, hyg⟩
                  · rintro σ Hy ⟨us2, new, o9, o10, rfl, sy, hyw, hyI, hnl2, hyg⟩
                    have sbb : Same (but Hc pw) (but Hy pw) := same_but sy but_none
                    refine ⟨kk - 1, by omega, pf, st + 1, us2, Ws' ++ new, Fs, _, _, _, _, _, rfl, ⟨by omega, sbH.trans sy, hyw, hyI, hFI.mono sbb, fun y hy => ?_, by rw [List.length_append]; omega, hfs, by omega, hfn⟩⟩
                    rcases List.mem_append.mp hy with hy | hy
                    · exact hmoreW y hy
                    · exact hyg y hy
                · -- the form is all words
                  have hje : j = form.length := by omega
                  rw [decide_eq_true (show V.int (j : Int) = V.int (form.length : Int) by rw [hje])]
                  obtain ⟨fvs, hfv, hFV⟩ := hFI
                  have lfv := Paired.length hFV
                  refine iteT ⟨_, rfl, _, rfl, by show 1 ≤ sizeLine; decide, fun l3 hl3 => ?_⟩
                  have t3 := same_new (o := .lst [.ref na]) hl3
                  have e3 : (upd H8 l3 (.lst [.ref na])) l3 = some (.lst [.ref na]) := upd_same
                  generalize upd H8 l3 (.lst [.ref na]) = H9 at *
                  refine ⟨_, rfl, _, rfl, ra, _, rfl, .inl (SqL.of ((s68.trans t3) _ _ hrow6)), rfl, .inr ⟨_, rfl, ?_⟩⟩
                  rw [List.length_map]
                  have sb9 : Same (but Hc pw) H9 := sb8.trans t3
                  have hpfne : pf ≠ pw := hbn hfv
                  cases hd : decide (V.int (j : Int) = V.int (row.length : Int)) with
                  | true =>
                    have hjr2 : j = row.length := by
                      have := V.int.inj (of_decide_eq_true hd)
                      omega
                    have hfr : form = row := by
                      have h1 : form.take j = form := by rw [hje, List.take_length]
                      have h2 : row.take j = row := by rw [hjr2, List.take_length]
                      rw [← h1, hT2, h2]
                    refine ⟨l3, 1, _, rfl, rfl, e3, by decide, by decide, by show 1 * 1 ≤ sizeLine; decide, fun l4 hl4 => ?_⟩
                    have t4 := same_new (o := .lst (List.replicate (Int.toNat 1) [V.ref na]).flatten) hl4
                    have e4 : (upd H9 l4 (.lst (List.replicate (Int.toNat 1) [V.ref na]).flatten)) l4 = some (.lst [.ref na]) := upd_same
                    generalize upd H9 l4 (.lst (List.replicate (Int.toNat 1) [V.ref na]).flatten) = HA at *
                    refine ⟨pf, l4, _, _, rfl, rfl, (sb9.trans t4) _ _ hfv, e4, by rw [lfv]; exact small6' (by show Fs.length + 1 ≤ _; omega), fun l5 hl5 => ?_⟩
                    have t5 := same_new (o := .lst (fvs ++ [.ref na])) hl5
                    have hwA := (t3.trans (t4.trans t5)) _ _ h8w
                    have hl5w : l5 ≠ pw := fun z => by subst z; rw [(t3.trans t4) _ _ h8w] at hl5; cases hl5
                    have sbz : Same (but Hc pw) (but (upd HA l5 (.lst (fvs ++ [.ref na]))) pw) := same_but (sb9.trans (t4.trans t5)) but_none
                    refine ⟨kk - 1, by omega, l5, st + 1, us', Ws', Fs ++ [nums], _, _, _, _, _, rfl, ⟨by omega, (sbH.trans sb9).trans (t4.trans t5), hwA, hWs'.mono fun _ _ q => q.mono sbz, ⟨fvs ++ [.ref na], ?_, (hFV.mono fun _ _ q => q.mono sbz).snoc ⟨na, rfl, sbz _ _ hna⟩⟩, hmoreW, by omega, fun y hy => ?_, by rw [List.length_append, List.length_singleton]; omega, fun y hy => ?_⟩⟩
                    · rw [but_ne hl5w]
                      exact upd_same
                    · rcases List.mem_append.mp hy with hy | hy
                      · exact hfs y hy
                      · rw [List.mem_singleton.mp hy]
                        rw [hfr] at hgd
                        exact hgd.done fun z hz => (hrw z hz).2
                    · rcases List.mem_append.mp hy with hy | hy
                      · exact hfn y hy
                      · rw [List.mem_singleton.mp hy]
                        have : nums.length ≤ st := hnl
                        omega
                  | false =>
                    refine ⟨l3, 0, _, rfl, rfl, e3, by decide, by decide, by show 1 * 0 ≤ sizeLine; decide, fun l4 hl4 => ?_⟩
                    have t4 := same_new (o := .lst (List.replicate (Int.toNat 0) [V.ref na]).flatten) hl4
                    have e4 : (upd H9 l4 (.lst (List.replicate (Int.toNat 0) [V.ref na]).flatten)) l4 = some (.lst []) := upd_same
                    generalize upd H9 l4 (.lst (List.replicate (Int.toNat 0) [V.ref na]).flatten) = HA at *
                    refine ⟨pf, l4, _, _, rfl, rfl, (sb9.trans t4) _ _ hfv, e4, by rw [lfv]; exact small6' (by show Fs.length + 0 ≤ _; omega), fun l5 hl5 => ?_⟩
                    have t5 := same_new (o := .lst (fvs ++ [])) hl5
                    have hwA := (t3.trans (t4.trans t5)) _ _ h8w
                    have hl5w : l5 ≠ pw := fun z => by subst z; rw [(t3.trans t4) _ _ h8w] at hl5; cases hl5
                    have sbz : Same (but Hc pw) (but (upd HA l5 (.lst (fvs ++ []))) pw) := same_but (sb9.trans (t4.trans t5)) but_none
                    refine ⟨kk - 1, by omega, l5, st + 1, us', Ws', Fs, _, _, _, _, _, rfl, ⟨by omega, (sbH.trans sb9).trans (t4.trans t5), hwA, hWs'.mono fun _ _ q => q.mono sbz, ⟨fvs, ?_, hFV.mono fun _ _ q => q.mono sbz⟩, hmoreW, by omega, hfs, by omega, hfn⟩⟩
                    rw [but_ne hl5w, upd_same, List.append_nil]
              · rw [decide_eq_false (show ¬ (j : Int) ≤ (row.length : Int) by omega)]
                exact iteF ⟨kk - 1, by omega, pf, st + 1, us', Ws', Fs, _, _, _, _, _, rfl, keep⟩
            · rw [decide_eq_false hT2]
              exact iteF (iteF ⟨kk - 1, by omega, pf, st + 1, us', Ws', Fs, _, _, _, _, _, rfl, keep⟩)
      · rw [decide_eq_false (show ¬ (st : Int) < 200 by omega)]
        exact iteF ⟨_, rfl, k H4 pf Fs (I.same.trans sq) ((I.fi.mono but_same).mono sq) I.fs (by have := I.fl; omega) I.fn⟩
end
end Rg
namespace Rg
open PySem PySem.Spec L2
/-! ### the trees in a row are the readings -/
theorem mem_kidsL_cons {T : Fct → List Nd} {x : Str} {ps : List Str} {b j : Nat} {c : List Nat} {cs : List Nd} : cs ∈ kidsL T (x :: ps) (b :: j :: c) ↔
    (isN x = true ∧ ∃ t ts, cs = t :: ts ∧ t ∈ T (x, b, j) ∧ ts ∈ kidsL T ps (j :: c)) ∨ (isN x = false ∧ ∃ ts, cs = .wd x :: ts ∧ ts ∈ kidsL T ps (j :: c)) := by
  show cs ∈ (if isN x = true then (T (x, b, j)).flatMap fun t => (kidsL T ps (j :: c)).map fun ts => t :: ts else (kidsL T ps (j :: c)).map fun ts => .wd x :: ts) ↔ _
  by_cases hx : isN x = true
  · rw [if_pos hx, List.mem_flatMap]
    constructor
    · rintro ⟨t, ht, h⟩
      obtain ⟨ts, h1, h2⟩ := List.mem_map.mp h
      exact .inl ⟨hx, t, ts, h2.symm, ht, h1⟩
    · rintro (⟨_, t, ts, rfl, ht, h⟩ | ⟨h, _⟩)
      · exact ⟨t, ht, List.mem_map.mpr ⟨ts, h, rfl⟩⟩
      · rw [hx] at h; cases h
  · rw [if_neg hx, List.mem_map]
    have hx' : isN x = false := by simpa using hx
    constructor
    · rintro ⟨ts, h1, h2⟩
      exact .inr ⟨hx', ts, h2.symm, h1⟩
    · rintro (⟨h, _⟩ | ⟨_, ts, rfl, h⟩)
      · rw [hx'] at h; cases h
      · exact ⟨ts, h, rfl⟩
theorem lastD_cons2 (b j : Nat) (c : List Nat) : (b :: j :: c).getLastD 0 = (j :: c).getLastD 0 := rfl
theorem Cut.lastD {row : List Str} {E : Str → Nat → List Nat} {last : Nat} {x : Str} {ps : List Str} {b j : Nat} {c : List Nat} (h : Cut row E last ps j c) : (b :: c).getLastD 0 = c.getLastD 0 := by
  obtain ⟨c', rfl⟩ := h.head
  rfl
theorem kidsL_sound {G : Gr} {row : List Str} {E : Str → Nat → List Nat} {last : Nat} {T : Fct → List Nd} (hT : ∀ g t, t ∈ T g → RT G row g.1 g.2.1 g.2.2 t) : ∀ {ps : List Str} {b : Nat} {c : List Nat} {cs : List Nd}, Cut row E last ps b c → cs ∈ kidsL T ps c → RTs G row ps b (c.getLastD 0) cs
  | _, _, _, cs, .nil b, h => by
    have : cs = [] := by
      unfold kidsL at h
      simpa using h
    subst this
    exact .nil b
  | _, _, _, cs, .cons (x := x) (b := b) (j := j) h1 h2 h3, h => by
    have hl := h3.lastD (x := x) (b := b)
    obtain ⟨c', rfl⟩ := h3.head
    rw [hl]
    rcases mem_kidsL_cons.mp h with ⟨hx, t, ts, rfl, ht, hts⟩ | ⟨hx, ts, rfl, hts⟩
    · exact .name hx (hT _ _ ht) (kidsL_sound hT h3 hts)
    · rcases mem_behind.mp h1 with ⟨hx', _⟩ | ⟨_, hr, rfl⟩
      · rw [hx] at hx'; cases hx'
      · exact .word hx hr (kidsL_sound hT h3 hts)
theorem mem_wayTrees {G : Gr} {T : Fct → List Nd} {w : Way} {t : Nd} : t ∈ wayTrees G T w ↔ ∃ r cs, G[w.1]? = some r ∧ cs ∈ kidsL T r.ps w.2 ∧ t = .nd w.1 cs := by
  unfold wayTrees
  cases h : G[w.1]? with
  | none =>
    constructor
    · intro h; cases h
    · rintro ⟨r, cs, h, _⟩; cases h
  | some r =>
    show t ∈ (kidsL T r.ps w.2).map (Nd.nd w.1) ↔ _
    rw [List.mem_map]
    constructor
    · rintro ⟨cs, h1, rfl⟩; exact ⟨r, cs, rfl, h1, rfl⟩
    · rintro ⟨r', cs, h1, h2, rfl⟩; cases h1; exact ⟨cs, h2, rfl⟩
theorem TL_sound {G : Gr} {row : List Str} {L : List Fct} : ∀ k f t, t ∈ TL G (Wf G row L) k f → RT G row f.1 f.2.1 f.2.2 t
  | 0, f, t, h => by cases h
  | k + 1, f, t, h => by
    obtain ⟨w, hw, ht⟩ := List.mem_flatMap.mp (show t ∈ (Wf G row L f).flatMap (wayTrees G (TL G (Wf G row L) k)) from h)
    obtain ⟨r, h1, h2, h3, h4⟩ := mem_waysOf.mp hw
    obtain ⟨r', cs, h5, h6, rfl⟩ := mem_wayTrees.mp ht
    rw [h1] at h5
    cases h5
    have := kidsL_sound (TL_sound k) h3 h6
    rw [h4] at this
    exact h2 ▸ RT.mk h1 this
/-! words -/
mutual
theorem RT.words {G : Gr} {row : List Str} : ∀ {x : Str} {i j : Nat} {t : Nd}, RT G row x i j t → row.drop i = wordsN t ++ row.drop j ∧ j = i + (wordsN t).length
  | _, _, _, _, .mk _ h => by
    simp only [wordsN]
    exact RTs.words h
theorem RTs.words {G : Gr} {row : List Str} : ∀ {ps : List Str} {i j : Nat} {ts : List Nd}, RTs G row ps i j ts → row.drop i = wordsS ts ++ row.drop j ∧ j = i + (wordsS ts).length
  | _, _, _, _, .nil i => by simp [wordsS]
  | _, _, _, _, .word (i := i) _ h2 h3 => by
    obtain ⟨a, b⟩ := RTs.words h3
    have hl := (List.getElem?_eq_some_iff.mp h2)
    simp only [wordsS, wordsN, List.length_append, List.length_cons, List.length_nil]
    refine ⟨?_, by omega⟩
    rw [List.drop_eq_getElem_cons hl.1, hl.2, a]
    rfl
  | _, _, _, _, .name _ h2 h3 => by
    obtain ⟨a, b⟩ := RT.words h2
    obtain ⟨c, d⟩ := RTs.words h3
    simp only [wordsS, List.length_append]
    exact ⟨by rw [a, c, List.append_assoc], by omega⟩
end
/-! the trees of all -/
mutual
theorem RT.inTT {G : Gr} {row : List Str} {L V R : List Fct} (S : Sized G row) (hL : IsFound G row L) (hV : IsGrove G row L V) (T : Topo G (sortF V) (Wf G row L) R) : ∀ {x : Str} {i j : Nat} {t : Nd}, RT G row x i j t → i ≤ row.length → (x, i, j) ∈ sortF V → t ∈ TT G (Wf G row L) (x, i, j)
  | _, i, j, _, .mk (n := n) (r := r) (cs := cs) hn h, hi, hf => by
    obtain ⟨c, h1, h2, h3⟩ := RTs.inTT S hL hV T h hi
    have hw : (n, c) ∈ Wf G row L (r.nm, i, j) := mem_waysOf.mpr ⟨r, hn, rfl, h1 j (Nat.le_refl _), h2⟩
    have hGv := grv_ok S hL hV
    rw [TT_eq hGv T hf, List.mem_flatMap]
    refine ⟨(n, c), hw, mem_wayTrees.mpr ⟨r, cs, hn, h3 fun g hg => ?_, rfl⟩⟩
    refine hGv.cl _ hf (n, c) hw g ?_
    unfold partsW
    rw [show G[(n, c).1]? = some r from hn]
    exact hg
theorem RTs.inTT {G : Gr} {row : List Str} {L V R : List Fct} (S : Sized G row) (hL : IsFound G row L) (hV : IsGrove G row L V) (T : Topo G (sortF V) (Wf G row L) R) : ∀ {ps : List Str} {i j : Nat} {ts : List Nd}, RTs G row ps i j ts → i ≤ row.length →
    ∃ c, (∀ last, j ≤ last → Cut row (EEs row L) last ps i c) ∧ c.getLastD 0 = j ∧ ((∀ g ∈ partsF ps c, g ∈ sortF V) → ts ∈ kidsL (TT G (Wf G row L)) ps c)
  | _, _, _, _, .nil i, _ => ⟨[i], fun _ _ => .nil i, rfl, fun _ => by unfold kidsL; simp⟩
  | _, _, j, _, .word (x := x) (i := i) hx h2 h3, hi => by
    have hl := (List.getElem?_eq_some_iff.mp h2).1
    obtain ⟨c, a, b, d⟩ := RTs.inTT S hL hV T h3 (by omega)
    have hle := h3.le (by omega)
    have hc := (a j (Nat.le_refl _)).head
    obtain ⟨c', rfl⟩ := hc
    refine ⟨i :: (i + 1) :: c', fun last hl => .cons (mem_behind.mpr (.inr ⟨hx, h2, rfl⟩)) (by omega) (a last hl), b, fun hg => ?_⟩
    refine mem_kidsL_cons.mpr (.inr ⟨hx, _, rfl, d fun g hg' => hg g ?_⟩)
    rw [partsF_cons]
    exact List.mem_append_right _ hg'
  | _, _, j, _, .name (x := x) (i := i) (c := m) hx h2 h3, hi => by
    have hle := h2.le hi
    obtain ⟨c, a, b, d⟩ := RTs.inTT S hL hV T h3 hle.2
    have hle3 := h3.le hle.2
    have hc := (a j (Nat.le_refl _)).head
    obtain ⟨c', rfl⟩ := hc
    have hfok : (x, i, m) ∈ sortF L := mem_sortF.mpr (hL.mem.mpr ⟨hi, _, h2⟩)
    refine ⟨i :: m :: c', fun last hl => .cons (mem_behind.mpr (.inl ⟨hx, mem_endsF.mpr ⟨hfok, hle⟩⟩)) (by omega) (a last hl), b, fun hg => ?_⟩
    have hgv : (x, i, m) ∈ sortF V := hg _ (by rw [partsF_cons, if_pos hx]; exact List.mem_append_left _ (List.mem_singleton.mpr rfl))
    refine mem_kidsL_cons.mpr (.inl ⟨hx, _, _, rfl, RT.inTT S hL hV T h2 hi hgv, d fun g hg' => hg g ?_⟩)
    rw [partsF_cons]
    exact List.mem_append_right _ hg'
end
/-! no two alike -/
def cutOf (b : Nat) : List Nd → List Nat
  | [] => [b]
  | t :: cs => b :: cutOf (b + (wordsN t).length) cs
theorem cutOf_eq {G : Gr} {row : List Str} {E : Str → Nat → List Nat} {last : Nat} {T : Fct → List Nd} (hT : ∀ g t, t ∈ T g → RT G row g.1 g.2.1 g.2.2 t) : ∀ {ps : List Str} {b : Nat} {c : List Nat} {cs : List Nd}, Cut row E last ps b c → cs ∈ kidsL T ps c → c = cutOf b cs
  | _, _, _, cs, .nil b, h => by
    have : cs = [] := by
      unfold kidsL at h
      simpa using h
    subst this
    rfl
  | _, _, _, cs, .cons (x := x) (b := b) (j := j) h1 h2 h3, h => by
    have hh := h3.head
    obtain ⟨c', e⟩ := hh
    subst e
    rcases mem_kidsL_cons.mp h with ⟨hx, t, ts, rfl, ht, hts⟩ | ⟨hx, ts, rfl, hts⟩
    · have e1 := cutOf_eq hT h3 hts
      have e2 := (hT _ _ ht).words.2
      show _ = b :: cutOf (b + (wordsN t).length) ts
      rw [← show j = b + (wordsN t).length from e2, ← e1]
    · have e1 := cutOf_eq hT h3 hts
      rcases mem_behind.mp h1 with ⟨hx', _⟩ | ⟨_, hr, rfl⟩
      · rw [hx] at hx'; cases hx'
      · show _ = b :: cutOf (b + (wordsN (.wd x)).length) ts
        rw [show b + (wordsN (.wd x)).length = b + 1 by simp [wordsN], ← e1]
theorem nd_flatMap {α β : Type} {f : α → List β} : ∀ {l : List α}, l.Nodup → (∀ a ∈ l, (f a).Nodup) → (∀ a ∈ l, ∀ b ∈ l, ∀ x, x ∈ f a → x ∈ f b → a = b) → (l.flatMap f).Nodup
  | [], _, _, _ => List.nodup_nil
  | a :: l, hn, h1, h2 => by
    rw [List.nodup_cons] at hn
    rw [List.flatMap_cons, List.nodup_append]
    refine ⟨h1 a List.mem_cons_self, nd_flatMap hn.2 (fun x hx => h1 x (List.mem_cons_of_mem _ hx)) (fun x hx y hy => h2 x (List.mem_cons_of_mem _ hx) y (List.mem_cons_of_mem _ hy)), fun x hx y hy e => ?_⟩
    subst e
    obtain ⟨b, hb, hxb⟩ := List.mem_flatMap.mp hy
    have := h2 a List.mem_cons_self b (List.mem_cons_of_mem _ hb) x hx hxb
    exact hn.1 (this ▸ hb)
theorem flatMap_single {α β : Type} (f : α → β) : ∀ l : List α, l.flatMap (fun a => [f a]) = l.map f
  | [] => rfl
  | a :: l => by rw [List.flatMap_cons, List.map_cons, flatMap_single f l]; rfl
theorem nd_map {α β : Type} {f : α → β} {l : List α} (hn : l.Nodup) (hf : ∀ a ∈ l, ∀ b ∈ l, f a = f b → a = b) : (l.map f).Nodup := by
  have := nd_flatMap (f := fun a => [f a]) hn (fun a _ => by simp) (fun a ha b hb x hx hy => by
    have e1 := List.mem_singleton.mp hx
    have e2 := List.mem_singleton.mp hy
    exact hf a ha b hb (e1.symm.trans e2))
  rwa [flatMap_single] at this
theorem kidsL_nd {T : Fct → List Nd} (hT : ∀ g, (T g).Nodup) : ∀ (ps : List Str) (c : List Nat), (kidsL T ps c).Nodup
  | [], c => by unfold kidsL; simp
  | x :: ps, [] => by unfold kidsL; simp
  | x :: ps, [i] => by unfold kidsL; simp
  | x :: ps, i :: j :: c => by
    have ih := kidsL_nd hT ps (j :: c)
    unfold kidsL
    split
    · refine nd_flatMap (hT _) (fun t _ => nd_map ih fun a _ b _ e => (List.cons.inj e).2) fun a _ b _ y hy hz => ?_
      obtain ⟨y1, _, e1⟩ := List.mem_map.mp hy
      obtain ⟨y2, _, e2⟩ := List.mem_map.mp hz
      rw [← e2] at e1
      exact (List.cons.inj e1).1
    · exact nd_map ih fun a _ b _ e => (List.cons.inj e).2
theorem behind_nd {row : List Str} {E : Str → Nat → List Nat} (h : ∀ x i, (E x i).Nodup) (x : Str) (i : Nat) : (behind row E x i).Nodup := by
  unfold behind
  split
  · exact h x i
  · split <;> simp
theorem cuts_nd {row : List Str} {E : Str → Nat → List Nat} {last : Nat} (h : ∀ x i, (E x i).Nodup) : ∀ (ps : List Str) (C : List (List Nat)), C.Nodup → (ps.foldl (cutStep row E last) C).Nodup
  | [], C, hC => hC
  | x :: ps, C, hC => by
    rw [List.foldl_cons]
    refine cuts_nd h ps _ ?_
    unfold cutStep
    refine nd_flatMap hC (fun c _ => ?_) fun a _ b _ y hy hz => ?_
    · unfold cutOne
      exact nd_map ((behind_nd h x _).filter _) fun p _ q _ e => by
        have := (List.append_inj' e rfl).2
        exact (List.cons.inj this).1
    · unfold cutOne at hy hz
      obtain ⟨y1, _, e1⟩ := List.mem_map.mp hy
      obtain ⟨y2, _, e2⟩ := List.mem_map.mp hz
      rw [← e2] at e1
      exact (List.append_inj' e1 rfl).1
theorem Wf_nd {G : Gr} {row : List Str} {L : List Fct} (f : Fct) : (Wf G row L f).Nodup := by
  unfold Wf waysOf sortW
  rw [(List.mergeSort_perm _ _).nodup_iff]
  unfold waysRaw
  refine nd_flatMap ?_ (fun n _ => ?_) fun a _ b _ w hw hz => ?_
  · exact List.nodup_range.filter _
  · unfold waysN
    split
    · refine nd_map ((cuts_nd (fun x i => endsF_nd x i) _ _ (by simp)).filter _) fun p _ q _ e => (Prod.mk.inj e).2
    · exact List.nodup_nil
  · have key : ∀ n, w ∈ waysN G row (EEs row L) f.2.1 f.2.2 n → w.1 = n := fun n h => by
      unfold waysN at h
      split at h
      · obtain ⟨c, _, e⟩ := List.mem_map.mp h
        rw [← e]
      · cases h
    exact (key a hw).symm.trans (key b hz)
theorem TL_nd {G : Gr} {row : List Str} {L : List Fct} : ∀ k f, (TL G (Wf G row L) k f).Nodup
  | 0, f => List.nodup_nil
  | k + 1, f => by
    show ((Wf G row L f).flatMap (wayTrees G (TL G (Wf G row L) k))).Nodup
    refine nd_flatMap (Wf_nd f) (fun w _ => ?_) fun w hw w' hw' t ht ht' => ?_
    · unfold wayTrees
      split
      · exact nd_map (kidsL_nd (TL_nd k) _ _) fun a _ b _ e => (Nd.nd.inj e).2
      · exact List.nodup_nil
    · obtain ⟨r, cs, h1, h2, rfl⟩ := mem_wayTrees.mp ht
      obtain ⟨r', cs', h1', h2', e⟩ := mem_wayTrees.mp ht'
      obtain ⟨e1, e2⟩ := Nd.nd.inj e
      subst e2
      obtain ⟨q, q1, q2, q3, q4⟩ := mem_waysOf.mp hw
      obtain ⟨q', q1', q2', q3', q4'⟩ := mem_waysOf.mp hw'
      rw [h1] at q1
      cases q1
      rw [h1'] at q1'
      cases q1'
      have c1 := cutOf_eq (TL_sound k) q3 h2
      have c2 := cutOf_eq (TL_sound k) q3' h2'
      exact Prod.ext e1 (c1.trans c2.symm)
/-! what is right of a reading -/
mutual
theorem RT.loc {G : Gr} {row : List Str} : ∀ {x : Str} {i j : Nat} {t : Nd}, RT G row x i j t → ∃ n cs r, t = .nd n cs ∧ G[n]? = some r ∧ r.nm = x ∧ ∀ d, ∀ y ∈ knotsN t d, ∃ m cs', y.1 = .nd m cs' ∧ LocOk G m cs'
  | _, _, _, _, .mk (n := n) (r := r) (cs := cs) hn h => by
    obtain ⟨h1, h2, h3⟩ := RTs.loc h
    refine ⟨n, cs, r, rfl, hn, rfl, fun d y hy => ?_⟩
    simp only [knotsN] at hy
    rcases List.mem_cons.mp hy with e | hy
    · subst e
      exact ⟨n, cs, rfl, ⟨r, hn, h1, h2⟩⟩
    · exact h3 _ y hy
theorem RTs.loc {G : Gr} {row : List Str} : ∀ {ps : List Str} {i j : Nat} {ts : List Nd}, RTs G row ps i j ts → ts.length = ps.length ∧ (∀ (k : Nat) (x : Str) (c : Nd), ps[k]? = some x → ts[k]? = some c → KidOk G x c) ∧ ∀ d, ∀ y ∈ knotsS ts d, ∃ m cs', y.1 = .nd m cs' ∧ LocOk G m cs'
  | _, _, _, _, .nil i => ⟨rfl, fun k x c h => by simp at h, fun d y hy => by simp [knotsS] at hy⟩
  | _, _, _, _, .word (x := x) hx _ h => by
    obtain ⟨h1, h2, h3⟩ := RTs.loc h
    refine ⟨by rw [List.length_cons, List.length_cons, h1], fun k y c hk hc => ?_, fun d y hy => ?_⟩
    · cases k with
      | zero =>
        have e1 : x = y := by simpa using hk
        have e2 : Nd.wd x = c := by simpa using hc
        rw [← e1, ← e2]
        exact .inl ⟨hx, rfl⟩
      | succ k => exact h2 k y c (by simpa using hk) (by simpa using hc)
    · simp only [knotsS, knotsN, List.nil_append] at hy
      exact h3 d y hy
  | _, _, _, _, .name (x := x) (t := t) hx h0 h => by
    obtain ⟨h1, h2, h3⟩ := RTs.loc h
    obtain ⟨n, cs, r, e, hn, hr, hk0⟩ := RT.loc h0
    refine ⟨by rw [List.length_cons, List.length_cons, h1], fun k y c hk hc => ?_, fun d y hy => ?_⟩
    · cases k with
      | zero =>
        have e1 : x = y := by simpa using hk
        have e2 : t = c := by simpa using hc
        rw [← e1, ← e2]
        exact .inr ⟨hx, n, cs, r, e, hn, hr⟩
      | succ k => exact h2 k y c (by simpa using hk) (by simpa using hc)
    · simp only [knotsS] at hy
      rcases List.mem_append.mp hy with hy | hy
      · exact hk0 d y hy
      · exact h3 d y hy
end
end Rg
namespace Rg
open PySem PySem.Spec L2
/-! ### bounds by span and rank -/
def span (f : Fct) : Nat := f.2.2 - f.2.1
def sameSp (f g : Fct) : Bool := decide (g.2.1 = f.2.1 ∧ g.2.2 = f.2.2)
def rk (R : List Fct) (f : Fct) : Nat := ((R.take (R.idxOf f)).filter (sameSp f)).length
def Bt : Nat → Nat → Nat
  | 0, 0 => 1
  | 0, 1 => 5
  | 0, 2 => 21
  | 0, _ => 85
  | s + 1, r => 2048 * (s + 1) + 256 * r - 1707
theorem Bt_le0 {r : Nat} : Bt 0 r ≤ 85 := by
  match r with
  | 0 => decide
  | 1 => decide
  | 2 => decide
  | _ + 3 => exact Nat.le_refl _
theorem Bt_s {s r : Nat} (h : 1 ≤ s) : Bt s r = 2048 * s + 256 * r - 1707 := by
  cases s with
  | zero => omega
  | succ s => rfl
theorem le_sum_mem : ∀ {l : List Nat} {x : Nat}, x ∈ l → x ≤ l.sum
  | a :: l, x, h => by
    rw [List.sum_cons]
    rcases List.mem_cons.mp h with e | h
    · omega
    · have := le_sum_mem h
      omega
theorem Bt0_mono : ∀ b < 3, ∀ a < 3, a ≤ b → Bt 0 a ≤ Bt 0 b := by decide
/-- the sum over at most four parts -/
theorem key_arith {s r : Nat} (hr : r ≤ 3) : ∀ l : List (Nat × Nat), l.length ≤ 4 → (l.map (·.1)).sum ≤ s → (∀ x ∈ l, x.2 ≤ 3 ∧ (x.1 = s → x.2 < r)) → 1 + (l.map fun x => Bt x.1 x.2).sum ≤ Bt s r := by
  intro l hl hs hx
  rcases Nat.eq_zero_or_pos s with h0 | h1
  · subst h0
    have hz : ∀ x ∈ l, x.1 = 0 := fun x hxl => by
      have : x.1 ≤ (l.map (·.1)).sum := le_sum_mem (List.mem_map.mpr ⟨x, hxl, rfl⟩)
      omega
    have hb : (l.map fun x => Bt x.1 x.2).sum ≤ l.length * (Bt 0 (r - 1)) := by
      clear hl hs
      induction l with
      | nil => simp
      | cons x l ih =>
        have h2 := ih (fun y hy => hx y (List.mem_cons_of_mem _ hy)) (fun y hy => hz y (List.mem_cons_of_mem _ hy))
        have h3 := hz x List.mem_cons_self
        obtain ⟨h4, h5⟩ := hx x List.mem_cons_self
        have h5 := h5 h3
        have h6 : Bt x.1 x.2 ≤ Bt 0 (r - 1) := by
          rw [h3]
          have hx2 : x.2 ≤ r - 1 := by omega
          have hr2 : r - 1 ≤ 2 := by omega
          exact Bt0_mono _ (by omega) _ (by omega) hx2
        rw [List.map_cons, List.sum_cons, List.length_cons, Nat.succ_mul]
        omega
    cases l with
    | nil =>
      match r, hr with
      | 0, _ => decide
      | 1, _ => decide
      | 2, _ => decide
      | 3, _ => decide
    | cons x l =>
      have h5 := (hx x List.mem_cons_self).2 (hz x List.mem_cons_self)
      have h6 : (x :: l).length * Bt 0 (r - 1) ≤ 4 * Bt 0 (r - 1) := Nat.mul_le_mul_right _ hl
      have h7 : 1 + 4 * Bt 0 (r - 1) ≤ Bt 0 r := by
        match r, hr, h5 with
        | 1, _, _ => decide
        | 2, _, _ => decide
        | 3, _, _ => decide
      omega
  · rw [Bt_s h1]
    have tri : ∀ x ∈ l, (x.1 = 0 ∧ Bt x.1 x.2 ≤ 85) ∨ (1 ≤ x.1 ∧ x.1 < s ∧ Bt x.1 x.2 + 939 ≤ 2048 * x.1) ∨ (x.1 = s ∧ Bt x.1 x.2 + 1963 ≤ 2048 * s + 256 * r) := fun x hxl => by
      obtain ⟨a, b⟩ := hx x hxl
      have hle : x.1 ≤ (l.map (·.1)).sum := le_sum_mem (List.mem_map.mpr ⟨x, hxl, rfl⟩)
      rcases Nat.eq_zero_or_pos x.1 with z | z
      · exact .inl ⟨z, by rw [z]; exact Bt_le0⟩
      · rw [Bt_s z]
        rcases Nat.lt_or_ge x.1 s with q | q
        · exact .inr (.inl ⟨z, q, by omega⟩)
        · have e : x.1 = s := by omega
          have := b e
          exact .inr (.inr ⟨e, by omega⟩)
    match l, hl with
    | [], _ => simp; omega
    | [a], _ =>
      have ha := tri a (by simp)
      simp only [List.map_cons, List.map_nil, List.sum_cons, List.sum_nil] at hs ⊢
      omega
    | [a, b], _ =>
      have ha := tri a (by simp)
      have hb := tri b (by simp)
      simp only [List.map_cons, List.map_nil, List.sum_cons, List.sum_nil] at hs ⊢
      omega
    | [a, b, c], _ =>
      have ha := tri a (by simp)
      have hb := tri b (by simp)
      have hc := tri c (by simp)
      simp only [List.map_cons, List.map_nil, List.sum_cons, List.sum_nil] at hs ⊢
      omega
    | [a, b, c, d], _ =>
      have ha := tri a (by simp)
      have hb := tri b (by simp)
      have hc := tri c (by simp)
      have hd := tri d (by simp)
      simp only [List.map_cons, List.map_nil, List.sum_cons, List.sum_nil] at hs ⊢
      rcases ha with ha | ha | ha <;> rcases hb with hb | hb | hb <;> omega
    | _ :: _ :: _ :: _ :: _ :: _, h => simp at h
theorem Cut.spans {row : List Str} {n last : Nat} {L : List Fct} : ∀ {ps : List Str} {b : Nat} {c : List Nat}, Cut row (endsF n L) last ps b c → b ≤ c.getLastD 0 ∧ ((partsF ps c).map span).sum + b ≤ c.getLastD 0 ∧ ∀ g ∈ partsF ps c, b ≤ g.2.1 ∧ g.2.1 ≤ g.2.2 ∧ g.2.2 ≤ c.getLastD 0
  | _, _, _, .nil b => ⟨Nat.le_refl _, by simp [partsF, partsK], fun g hg => by simp [partsF, partsK] at hg⟩
  | _, _, _, .cons (x := x) (ps := ps) (b := b) (j := j) h1 h2 h3 => by
    obtain ⟨a1, a2, a3⟩ := h3.spans
    have hl := h3.lastD (x := x) (b := b)
    obtain ⟨c', rfl⟩ := h3.head
    rw [hl, partsF_cons]
    rcases mem_behind.mp h1 with ⟨hx, he⟩ | ⟨hx, _, rfl⟩
    · have hbj := (mem_endsF.mp he).2.1
      rw [if_pos hx, List.map_append, List.sum_append]
      refine ⟨by omega, ?_, fun g hg => ?_⟩
      · show (span (x, b, j) + 0) + _ + b ≤ _
        show (j - b + 0) + _ + b ≤ _
        omega
      · rcases List.mem_append.mp hg with hg | hg
        · rw [List.mem_singleton.mp hg]
          exact ⟨Nat.le_refl _, hbj, a1⟩
        · obtain ⟨b1, b2, b3⟩ := a3 g hg
          exact ⟨by omega, b2, b3⟩
    · rw [if_neg (by rw [hx]; decide), List.nil_append]
      exact ⟨by omega, by omega, fun g hg => let ⟨b1, b2, b3⟩ := a3 g hg; ⟨by omega, b2, b3⟩⟩
section
variable {G : Gr} {row : List Str} {L V R : List Fct}
theorem rk_le3 (S : Sized G row) (hL : IsFound G row L) (hV : IsGrove G row L V) (T : Topo G (sortF V) (Wf G row L) R) {f : Fct} (hf : f ∈ sortF V) : rk R f ≤ 3 := by
  obtain ⟨l4, hl4, hn⟩ := S.n4
  have hfR := (T.mem f).mpr hf
  have hok : ∀ g ∈ sortF V, g.1 ∈ l4 := fun g hg => by
    rcases hV.inv hL with rfl | I
    · exact absurd (mem_sortF.mp hg) List.not_mem_nil
    · obtain ⟨_, t, ht⟩ := I.okV g (mem_sortF.mp hg)
      obtain ⟨r, hr, e⟩ := ht.nm
      exact e ▸ hn r hr
  have hnf : f ∉ R.take (R.idxOf f) := fun hm => by
    obtain ⟨A, B, e⟩ := List.append_of_mem hfR
    have hA : f ∉ A := fun z => by
      have := T.nd
      rw [e, List.nodup_append] at this
      exact this.2.2 f z f List.mem_cons_self rfl
    have h1 : R.idxOf f = A.length := by
      rw [e, List.idxOf_append, if_neg hA, List.idxOf_cons_self, Nat.zero_add]
    rw [h1, e, List.take_left'] at hm
    · exact hA hm
    · rfl
  have hndl : (((R.take (R.idxOf f)).filter (sameSp f)) ++ [f]).Nodup := by
    refine nd_snoc ((T.nd.sublist (List.take_sublist _ _)).filter _) fun hm => hnf (List.mem_filter.mp hm).1
  have hmap : ((((R.take (R.idxOf f)).filter (sameSp f)) ++ [f]).map (·.1)).Nodup := by
    refine nd_map hndl fun a ha b hb e => ?_
    have key : ∀ c ∈ ((R.take (R.idxOf f)).filter (sameSp f)) ++ [f], c.2.1 = f.2.1 ∧ c.2.2 = f.2.2 := fun c hc => by
      rcases List.mem_append.mp hc with hc | hc
      · exact of_decide_eq_true (List.mem_filter.mp hc).2
      · rw [List.mem_singleton.mp hc]; exact ⟨rfl, rfl⟩
    obtain ⟨a1, a2⟩ := key a ha
    obtain ⟨b1, b2⟩ := key b hb
    exact Prod.ext e (Prod.ext (a1.trans b1.symm) (a2.trans b2.symm))
  have := nodup_len hmap (m := l4) fun x hx => by
    obtain ⟨g, hg, rfl⟩ := List.mem_map.mp hx
    rcases List.mem_append.mp hg with hg | hg
    · exact hok g ((T.mem g).mp (List.mem_of_mem_take (List.mem_filter.mp hg).1))
    · rw [List.mem_singleton.mp hg]; exact hok f hf
  rw [List.length_map, List.length_append, List.length_singleton] at this
  unfold rk
  omega
theorem rk_lt (S : Sized G row) (hL : IsFound G row L) (hV : IsGrove G row L V) (T : Topo G (sortF V) (Wf G row L) R) {f g : Fct} (hf : f ∈ sortF V) (hk : Kid G (Wf G row L) f g) (hs : g.2.1 = f.2.1 ∧ g.2.2 = f.2.2) : rk R g < rk R f := by
  have hi := idx_lt T hf hk
  have hfR := (T.mem f).mpr hf
  have hgV : g ∈ sortF V := by
    obtain ⟨w, hw, hg⟩ := hk
    exact (grv_ok S hL hV).cl f hf w hw g hg
  have hgR := (T.mem g).mpr hgV
  have hgl := List.idxOf_lt_length_of_mem hgR
  have hfl := List.idxOf_lt_length_of_mem hfR
  have e1 : sameSp g = sameSp f := by
    funext y
    unfold sameSp
    rw [hs.1, hs.2]
  unfold rk
  rw [e1]
  have hsplit : R.take (R.idxOf f) = R.take (R.idxOf g) ++ (g :: (R.take (R.idxOf f)).drop (R.idxOf g + 1)) := by
    have h1 : (R.take (R.idxOf f)).take (R.idxOf g) = R.take (R.idxOf g) := by rw [List.take_take, Nat.min_eq_left (by omega)]
    have h2 : (R.take (R.idxOf f)).drop (R.idxOf g) = g :: (R.take (R.idxOf f)).drop (R.idxOf g + 1) := by
      have hl : R.idxOf g < (R.take (R.idxOf f)).length := by rw [List.length_take]; omega
      rw [List.drop_eq_getElem_cons hl]
      congr 1
      rw [List.getElem_take]
      exact List.getElem_idxOf hgl
    rw [← h1, ← h2, h1, ← h1, List.take_append_drop]
  rw [hsplit, List.filter_append, List.length_append, List.filter_cons_of_pos (by unfold sameSp; simpa using hs), List.length_cons]
  omega
/-- what the parts of a way come to -/
theorem key_way (S : Sized G row) (hL : IsFound G row L) (hV : IsGrove G row L V) (T : Topo G (sortF V) (Wf G row L) R) {f : Fct} (hf : f ∈ sortF V) {w : Way} (hw : w ∈ Wf G row L f) :
    1 + ((partsW G w).map fun g => Bt (span g) (rk R g)).sum ≤ Bt (span f) (rk R f) ∧ ∀ g ∈ partsW G w, 4 * span g + rk R g < 4 * span f + rk R f := by
  obtain ⟨r, h1, h2, h3, h4⟩ := mem_waysOf.mp hw
  have hGv := grv_ok S hL hV
  have epw : partsW G w = partsF r.ps w.2 := by unfold partsW; rw [h1]
  obtain ⟨a1, a2, a3⟩ := h3.spans
  rw [h4] at a1 a2 a3
  have hfle : f.2.1 ≤ f.2.2 := a1
  have hpart : ∀ g ∈ partsW G w, rk R g ≤ 3 ∧ span g ≤ span f ∧ (span g = span f → rk R g < rk R f) := fun g hg => by
    have hgV := hGv.cl f hf w hw g hg
    obtain ⟨b1, b2, b3⟩ := a3 g (epw ▸ hg)
    refine ⟨rk_le3 S hL hV T hgV, ?_, fun e => ?_⟩
    · unfold span; omega
    · refine rk_lt S hL hV T hf ⟨w, hw, hg⟩ ?_
      unfold span at e
      omega
  constructor
  · have := key_arith (s := span f) (rk_le3 S hL hV T hf) ((partsW G w).map fun g => (span g, rk R g)) ?_ ?_ ?_
    · rw [List.map_map] at this
      exact this
    · rw [List.length_map]
      exact partsW_len S w
    · rw [List.map_map, epw]
      show ((partsF r.ps w.2).map span).sum ≤ _
      unfold span at a2 ⊢
      omega
    · intro x hx
      obtain ⟨g, hg, rfl⟩ := List.mem_map.mp hx
      obtain ⟨c1, c2, c3⟩ := hpart g hg
      exact ⟨c1, c3⟩
  · intro g hg
    obtain ⟨c1, c2, c3⟩ := hpart g hg
    have := rk_le3 S hL hV T hf
    rcases Nat.lt_or_ge (span g) (span f) with q | q
    · omega
    · have := c3 (by omega)
      omega
end
end Rg
namespace Rg
open PySem PySem.Spec L2
theorem prodN_le {C B : Fct → Nat} : ∀ {l : List Fct}, (∀ g ∈ l, C g ≤ 2 ^ (14 * B g)) → prodN C l ≤ 2 ^ (14 * (l.map B).sum)
  | [], _ => Nat.le_refl _
  | g :: l, h => by
    have h1 := prodN_le (l := l) fun x hx => h x (List.mem_cons_of_mem _ hx)
    have h2 := h g List.mem_cons_self
    rw [prodN_cons, List.map_cons, List.sum_cons, Nat.mul_add, Nat.pow_add]
    exact Nat.mul_le_mul h2 h1
theorem sum_le_const {α : Type} {f : α → Nat} {m : Nat} : ∀ {l : List α}, (∀ x ∈ l, f x ≤ m) → (l.map f).sum ≤ l.length * m
  | [], _ => by simp
  | a :: l, h => by
    have h1 := sum_le_const (l := l) fun x hx => h x (List.mem_cons_of_mem _ hx)
    have h2 := h a List.mem_cons_self
    rw [List.map_cons, List.sum_cons, List.length_cons, Nat.succ_mul]
    omega
theorem kids_sz {T : Fct → List Nd} {P : Fct → Nat} : ∀ {ps : List Str} {c : List Nat} {cs : List Nd}, c.length = ps.length + 1 → cs ∈ kidsL T ps c → (∀ g ∈ partsF ps c, ∀ t ∈ T g, szN t ≤ P g) → szs cs ≤ ps.length + ((partsF ps c).map P).sum
  | [], c, cs, _, h, _ => by
    have : cs = [] := by unfold kidsL at h; simpa using h
    subst this
    simp [szs]
  | x :: ps, [], cs, h, _, _ => by simp at h
  | x :: ps, [i], cs, h, _, _ => by simp at h
  | x :: ps, i :: j :: c, cs, h, hc, hp => by
    have hl : (j :: c).length = ps.length + 1 := by simp at h ⊢; omega
    rw [partsF_cons] at hp ⊢
    rcases mem_kidsL_cons.mp hc with ⟨hx, t, ts, rfl, ht, hts⟩ | ⟨hx, ts, rfl, hts⟩
    · have h1 := kids_sz hl hts fun g hg => hp g (List.mem_append_right _ hg)
      have h2 := hp (x, i, j) (List.mem_append_left _ (by rw [if_pos hx]; exact List.mem_singleton.mpr rfl)) t ht
      rw [if_pos hx, List.map_append, List.sum_append]
      simp only [szs, List.length_cons, List.map_cons, List.map_nil, List.sum_cons, List.sum_nil]
      omega
    · have h1 := kids_sz hl hts fun g hg => hp g (List.mem_append_right _ hg)
      rw [if_neg (by rw [hx]; decide), List.nil_append]
      simp only [szs, szN, List.length_cons]
      omega
theorem kids_dep {T : Fct → List Nd} {D : Nat} (hD : 1 ≤ D) : ∀ {ps : List Str} {c : List Nat} {cs : List Nd}, cs ∈ kidsL T ps c → c.length = ps.length + 1 → (∀ g ∈ partsF ps c, ∀ t ∈ T g, (eNd t).depth ≤ D) → PyData.depthAll (eNds cs) ≤ D
  | [], c, cs, h, _, _ => by
    have : cs = [] := by unfold kidsL at h; simpa using h
    subst this
    simp [eNds, PyData.depthAll]
  | x :: ps, [], cs, _, h, _ => by simp at h
  | x :: ps, [i], cs, _, h, _ => by simp at h
  | x :: ps, i :: j :: c, cs, hc, h, hp => by
    have hl : (j :: c).length = ps.length + 1 := by simp at h ⊢; omega
    rw [partsF_cons] at hp
    rcases mem_kidsL_cons.mp hc with ⟨hx, t, ts, rfl, ht, hts⟩ | ⟨hx, ts, rfl, hts⟩
    · have h1 := kids_dep hD hts hl fun g hg => hp g (List.mem_append_right _ hg)
      have h2 := hp (x, i, j) (List.mem_append_left _ (by rw [if_pos hx]; exact List.mem_singleton.mpr rfl)) t ht
      simp only [eNds, PyData.depthAll]
      omega
    · have h1 := kids_dep hD hts hl fun g hg => hp g (List.mem_append_right _ hg)
      simp only [eNds, eNd, PyData.depthAll, PyData.depth]
      omega
section
variable {G : Gr} {row : List Str} {L V R : List Fct}
theorem TL_len (S : Sized G row) (hL : IsFound G row L) (hV : IsGrove G row L V) (T : Topo G (sortF V) (Wf G row L) R) : ∀ k, ∀ f ∈ sortF V, (TL G (Wf G row L) k f).length ≤ 2 ^ (14 * Bt (span f) (rk R f))
  | 0, f, _ => Nat.zero_le _
  | k + 1, f, hf => by
    have hGv := grv_ok S hL hV
    show ((Wf G row L f).flatMap (wayTrees G (TL G (Wf G row L) k))).length ≤ _
    rw [flatMap_len_sum fun w hw => wayTrees_len (T := TL G (Wf G row L) k) (hGv.wok f hf w hw)]
    have h1 : ∀ w ∈ Wf G row L f, prodN (fun g => (TL G (Wf G row L) k g).length) (partsW G w) ≤ 2 ^ (14 * (Bt (span f) (rk R f) - 1)) := fun w hw => by
      obtain ⟨a, _⟩ := key_way S hL hV T hf hw
      refine Nat.le_trans (prodN_le (B := fun g => Bt (span g) (rk R g)) fun g hg => TL_len S hL hV T k g (hGv.cl f hf w hw g hg)) ?_
      exact Nat.pow_le_pow_right (by decide) (by omega)
    refine Nat.le_trans (sum_le_const h1) ?_
    rcases Nat.eq_zero_or_pos (Wf G row L f).length with z | z
    · rw [z, Nat.zero_mul]; exact Nat.zero_le _
    · have hB : 1 ≤ Bt (span f) (rk R f) := by
        obtain ⟨w, hw⟩ := List.exists_mem_of_length_pos z
        have := (key_way S hL hV T hf hw).1
        omega
      have e : 14 * Bt (span f) (rk R f) = 14 + 14 * (Bt (span f) (rk R f) - 1) := by omega
      rw [e, Nat.pow_add]
      refine Nat.mul_le_mul_right _ ?_
      exact Nat.le_trans (hGv.wl f hf) (by decide)
theorem Bt_top (S : Sized G row) (hL : IsFound G row L) (hV : IsGrove G row L V) (T : Topo G (sortF V) (Wf G row L) R) {f : Fct} (hf : f ∈ sortF V) : Bt (span f) (rk R f) ≤ 9301 ∧ span f ≤ 5 := by
  have h1 := rk_le3 S hL hV T hf
  have h2 : span f ≤ 5 := by
    have h3 := S.rl
    rcases hV.inv hL with rfl | I
    · exact absurd (mem_sortF.mp hf) List.not_mem_nil
    · have := (I.okV f (mem_sortF.mp hf)).le
      unfold span
      omega
  refine ⟨?_, h2⟩
  rcases Nat.eq_zero_or_pos (span f) with z | z
  · rw [z]
    exact Nat.le_trans Bt_le0 (by decide)
  · rw [Bt_s z]
    omega
theorem TL_sz (S : Sized G row) (hL : IsFound G row L) (hV : IsGrove G row L V) (T : Topo G (sortF V) (Wf G row L) R) : ∀ k, ∀ f ∈ sortF V, ∀ t ∈ TL G (Wf G row L) k f, szN t ≤ 6 * Bt (span f) (rk R f) ∧ (eNd t).depth ≤ 2 * (4 * span f + rk R f) + 3
  | 0, f, _, t, ht => by cases ht
  | k + 1, f, hf, t, ht => by
    have hGv := grv_ok S hL hV
    obtain ⟨w, hw, ht⟩ := List.mem_flatMap.mp (show t ∈ (Wf G row L f).flatMap (wayTrees G (TL G (Wf G row L) k)) from ht)
    obtain ⟨r, cs, h1, h2, rfl⟩ := mem_wayTrees.mp ht
    obtain ⟨r', h1', h3⟩ := hGv.wok f hf w hw
    rw [h1] at h1'
    cases h1'
    have epw : partsW G w = partsF r.ps w.2 := by unfold partsW; rw [h1]
    obtain ⟨a, b⟩ := key_way S hL hV T hf hw
    have hin : ∀ g ∈ partsF r.ps w.2, g ∈ sortF V := fun g hg => hGv.cl f hf w hw g (epw ▸ hg)
    constructor
    · have h4 := kids_sz (P := fun g => 6 * Bt (span g) (rk R g)) h3 h2 fun g hg t ht => (TL_sz S hL hV T k g (hin g hg) t ht).1
      have h5 := S.pl r (List.mem_of_getElem? h1)
      have h6 : ((partsF r.ps w.2).map fun g => 6 * Bt (span g) (rk R g)).sum = 6 * ((partsF r.ps w.2).map fun g => Bt (span g) (rk R g)).sum := by
        generalize partsF r.ps w.2 = l
        induction l with
        | nil => rfl
        | cons g l ih => rw [List.map_cons, List.sum_cons, List.map_cons, List.sum_cons, ih, Nat.mul_add]
      rw [epw] at a
      simp only [szN]
      rw [h6] at h4
      omega
    · rw [epw] at b
      have h7 : PyData.depthAll (eNds cs) ≤ max (2 * (4 * span f + rk R f) + 1) 1 := kids_dep (by omega) h2 h3 fun g hg t ht => by
        have h8 := (TL_sz S hL hV T k g (hin g hg) t ht).2
        have h9 := b g hg
        omega
      simp only [eNd, PyData.depth, PyData.depthAll]
      omega
end
theorem bigOk : BigOk := fun G row L V R S hL hV T f hf => by
  have h1 := TL_len S hL hV T 289 f hf
  have h2 := (Bt_top S hL hV T hf).1
  refine Nat.lt_of_le_of_lt h1 (Nat.pow_lt_pow_right (by decide) ?_)
  show _ < 1000000
  omega
theorem szOk : SzOk := fun G row L V R S hL hV T f hf t ht => by
  have h1 := (TL_sz S hL hV T 289 f hf t ht).1
  have h2 := (Bt_top S hL hV T hf).1
  omega
theorem depOk {G : Gr} {row : List Str} {L V R : List Fct} (S : Sized G row) (hL : IsFound G row L) (hV : IsGrove G row L V) (T : Topo G (sortF V) (Wf G row L) R) {f : Fct} (hf : f ∈ sortF V) {t : Nd} (ht : t ∈ TT G (Wf G row L) f) : (eNd t).depth ≤ 50 := by
  have h1 := (TL_sz S hL hV T 289 f hf t ht).2
  have h2 := (Bt_top S hL hV T hf).2
  have h3 := rk_le3 S hL hV T hf
  omega
/-! data of trees -/
mutual
theorem eNd_lay : ∀ t : Nd, (∀ x ∈ wordsN t, PyData.strOk x = true) → (eNd t).canLay0 = true
  | .wd s, h => by
    simp only [eNd, PyData.canLay0]
    exact h s (by simp [wordsN])
  | .nd n cs, h => by
    simp only [eNd, PyData.canLay0, PyData.canLayAll0, Bool.true_and, Bool.and_true]
    exact eNds_lay cs fun x hx => h x (by simpa [wordsN] using hx)
theorem eNds_lay : ∀ ts : List Nd, (∀ x ∈ wordsS ts, PyData.strOk x = true) → PyData.canLayAll0 (eNds ts) = true
  | [], _ => by simp [eNds, PyData.canLayAll0]
  | t :: ts, h => by
    simp only [eNds, PyData.canLayAll0]
    rw [eNd_lay t fun x hx => h x (by simp only [wordsS]; exact List.mem_append_left _ hx), eNds_lay ts fun x hx => h x (by simp only [wordsS]; exact List.mem_append_right _ hx)]
    rfl
end
mutual
theorem eNd_inj : ∀ a b : Nd, PyData.eqv (eNd a) (eNd b) = true → a = b
  | .wd s, .wd s', h => by
    simp only [eNd, PyData.eqv] at h
    rw [eq_of_beq h]
  | .wd s, .nd n cs, h => by simp [eNd, PyData.eqv] at h
  | .nd n cs, .wd s, h => by simp [eNd, PyData.eqv] at h
  | .nd n cs, .nd m ds, h => by
    simp only [eNd, PyData.eqv, PyData.eqvAll, Bool.and_true, Bool.and_eq_true] at h
    have h1 : (n : Int) = (m : Int) := eq_of_beq h.1
    have h2 := eNds_inj cs ds h.2
    have h3 : n = m := by omega
    rw [h2, h3]
theorem eNds_inj : ∀ a b : List Nd, PyData.eqvAll (eNds a) (eNds b) = true → a = b
  | [], [], _ => rfl
  | [], _ :: _, h => by simp [eNds, PyData.eqvAll] at h
  | _ :: _, [], h => by simp [eNds, PyData.eqvAll] at h
  | x :: a, y :: b, h => by
    simp only [eNds, PyData.eqvAll, Bool.and_eq_true] at h
    rw [eNd_inj x y h.1, eNds_inj a b h.2]
end
end Rg
namespace Rg
open PySem PySem.Spec L2
theorem ninD {X : Cx} {K : PySem.W.Frag} (hu : X.A.units + 65 < cLine) (h : X.K = K := by rfl) : OpR X (compareOp .NotIn) (rNotInD K) := by subst h; exact op_notInD hu
theorem all8_len : ∀ s ∈ all8, s.length < 1000 := by decide +kernel
theorem LawG.in8 {G : Gr} (h : LawG G) : ∀ r ∈ G, r.nm ∈ all8 ∧ isN r.nm = true ∧ r.ps.length ≤ 4 ∧ ∀ p ∈ r.ps, p ∈ all8 := fun r hr => ⟨(nm4_8 _ (h.nm r hr)).1, (nm4_8 _ (h.nm r hr)).2, h.pl r hr, fun p hp => by
  rcases h.ps r hr p hp with q | ⟨r', hr', rfl⟩
  · exact (wd3_8 p q).1
  · exact (nm4_8 _ (h.nm r' hr')).1⟩
theorem LawG.grOk {G : Gr} (h : LawG G) : GrOk G := ⟨h.ne, h.len, h.ct, h.pl, fun r hr p hp => all8_len p ((h.in8 r hr).2.2.2 p hp), fun r hr p hp hn => by
  rcases h.ps r hr p hp with q | q
  · rw [(wd3_8 p q).2] at hn; cases hn
  · exact q⟩
theorem LawG.sized {G : Gr} {row : List Str} (h : LawG G) (hr : row.length ≤ 5) : Sized G row :=
  ⟨h.ne, h.len, hr, h.pl, fun r hr => ⟨all8_len _ (h.in8 r hr).1, fun p hp => all8_len p ((h.in8 r hr).2.2.2 p hp)⟩, ⟨nm4, by decide, h.nm⟩, fun r hr => ⟨all8_ok _ (h.in8 r hr).1, fun p hp => all8_ok p ((h.in8 r hr).2.2.2 p hp)⟩⟩
theorem nd_get_inj {α : Type} : ∀ {l : List α} {i j : Nat} {a : α}, l.Nodup → l[i]? = some a → l[j]? = some a → i = j
  | [], i, j, a, _, h, _ => by simp at h
  | x :: l, 0, 0, a, _, _, _ => rfl
  | x :: l, 0, j + 1, a, hn, h1, h2 => by
    have e : x = a := by simpa using h1
    have h3 : l[j]? = some a := by simpa using h2
    exact absurd (e ▸ List.mem_of_getElem? h3) (List.nodup_cons.mp hn).1
  | x :: l, i + 1, 0, a, hn, h1, h2 => by
    have e : x = a := by simpa using h2
    have h3 : l[i]? = some a := by simpa using h1
    exact absurd (e ▸ List.mem_of_getElem? h3) (List.nodup_cons.mp hn).1
  | x :: l, i + 1, j + 1, a, hn, h1, h2 => by
    have := nd_get_inj (List.nodup_cons.mp hn).2 (show l[i]? = some a by simpa using h1) (show l[j]? = some a by simpa using h2)
    omega
def mxN (M : Nat) : Nat := max 15 (M - 15)
def numsN (M : Nat) : List Nat := List.range (min M 15) ++ (List.range (M - mxN M)).map fun i => mxN M + i
theorem numsN_lt {M n : Nat} (h : n ∈ numsN M) : n < M := by
  unfold numsN at h
  rcases List.mem_append.mp h with h | h
  · have := List.mem_range.mp h; omega
  · obtain ⟨i, hi, rfl⟩ := List.mem_map.mp h
    have := List.mem_range.mp hi
    omega
theorem numsN_all {M n : Nat} (h : M ≤ 30) (hn : n < M) : n ∈ numsN M := by
  unfold numsN mxN
  rw [List.mem_append, List.mem_range, List.mem_map]
  rcases Nat.lt_or_ge n 15 with q | q
  · left; omega
  · right
    exact ⟨n - max 15 (M - 15), List.mem_range.mpr (by omega), by omega⟩
theorem numsN_nd (M : Nat) : (numsN M).Nodup := by
  unfold numsN
  rw [List.nodup_append]
  refine ⟨List.nodup_range, nd_map List.nodup_range fun a _ b _ e => by omega, fun a ha b hb e => ?_⟩
  subst e
  have := List.mem_range.mp ha
  obtain ⟨i, _, e⟩ := List.mem_map.mp hb
  unfold mxN at e
  omega
theorem numsN_len (M : Nat) : (numsN M).length ≤ 30 := by
  unfold numsN mxN
  rw [List.length_append, List.length_map, List.length_range, List.length_range]
  omega
theorem rg_1 (M : Nat) : rgV 0 (if (15 : Int) < (M : Int) then 15 else (M : Int)) = (List.range (min M 15)).map vN := by
  unfold rgV
  have e : ((if (15 : Int) < (M : Int) then 15 else (M : Int)) - 0).toNat = min M 15 := by split <;> omega
  rw [e]
  refine List.map_congr_left fun i _ => ?_
  show V.int (0 + (i : Int)) = V.int (i : Int)
  rw [Int.zero_add]
theorem rg_2 (M : Nat) : rgV (if (M : Int) - 15 > 15 then (M : Int) - 15 else 15) (M : Int) = ((List.range (M - mxN M)).map fun i => mxN M + i).map vN := by
  unfold rgV
  have e : (if (M : Int) - 15 > 15 then (M : Int) - 15 else 15) = (mxN M : Int) := by unfold mxN; split <;> omega
  rw [e, List.map_map, show ((M : Int) - (mxN M : Int)).toNat = M - mxN M by omega]
  rfl
theorem cutV_takeV (xs : List V) (j : Nat) : cutV xs none (some (j : Int)) = xs.take j := by
  unfold cutV
  rw [HT.sIx_none, HT.sIx_nat, List.drop_zero, Nat.sub_zero, List.take_eq_take_iff]
  omega
theorem canAll {l : List PyData} (h : ∀ d ∈ l, d.canLay0 = true ∧ d.depth ≤ 60) : SeqAt.shaped (.list l) = true := by
  have key : PyData.canLayAll0 l = true ∧ PyData.depthAll l ≤ 60 := by
    induction l with
    | nil => exact ⟨rfl, Nat.zero_le _⟩
    | cons d l ih =>
      obtain ⟨h1, h2⟩ := ih fun y hy => h y (List.mem_cons_of_mem _ hy)
      obtain ⟨h3, h4⟩ := h d List.mem_cons_self
      refine ⟨by simp [PyData.canLayAll0, h1, h3], ?_⟩
      simp only [PyData.depthAll]
      omega
  simp [SeqAt.shaped, PyData.canLay0, PyData.depth, key.1]
  omega
theorem shp1 {d : PyData} (h : d.canLay0 = true ∧ d.depth ≤ 60) : SeqAt.shaped d = true := by
  simp [SeqAt.shaped, h.1]
  omega
def eNs (ns : List Nat) : PyData := .list (ns.map dN)
theorem eNs_ok (ns : List Nat) : (eNs ns).canLay0 = true ∧ (eNs ns).depth ≤ 60 := by
  have h1 : ∀ l : List Nat, PyData.canLayAll0 (l.map dN) = true := fun l => by
    induction l with
    | nil => rfl
    | cons a l ih => simp [PyData.canLayAll0, PyData.canLay0, ih]
  have h2 := dep_ints ns
  refine ⟨by simp [eNs, PyData.canLay0, h1], ?_⟩
  simp only [eNs, PyData.depth]
  omega
theorem NV.dp {K : PySem.W.Frag} {H : Hp} {v : V} {ns : List Nat} (h : NV H v ns) : Dp K H v (eNs ns) := let ⟨_, e, q⟩ := h; e ▸ .lst (SqL.of q) ((IsL.ints ns).dp K)
theorem LL.dps {K : PySem.W.Frag} {H : Hp} : ∀ {vs : List V} {Fs : List (List Nat)}, Paired (NV H) vs Fs → DpAll K H vs (Fs.map eNs)
  | _, _, .nil => .nil
  | _, _, .cons h t => .cons h.dp (LL.dps t)
section
variable {P : Program} {w : World} {K : PySem.W.Frag} {mg : Str → Option Value} {base : Heap} {f : Addr} {fd : FuncData}
def sp_law (K : PySem.W.Frag) : Sp := fun vs H Q _ => ∃ (a : Addr) (ns : List Int), vs = [.ref a] ∧ SqL K H a (ns.map V.int) ∧ ns.length ≤ 1000 ∧ ∀ H', Q (.bl true) H'
theorem ok_law (F : Fun K "law" "law" st_law f fd) (B : Bl mg) (Cg : Cal P w K mg base 3 "_law_grammar" ["script"] (sp_law_grammar K)) (Cr : Cal P w K mg base 3 "_law_row" ["script", "rules", "most"] (sp_law_row K)) (Co : Cal P w K mg base 2 "grammar_of" ["rules"] sp_grammar_of)
    (Cc : Cal P w K mg base 7 "grove_count" ["grammar", "row"] sp_grove_count) (Ct : Cal P w K mg base 37 "tree_numbered" ["grammar", "row", "number"] sp_tree_numbered) (Ci : Cal P w K mg base 4 "is_reading" ["grammar", "row", "tree"] sp_is_reading)
    (Cn : Cal P w K mg base 1 "_law_numbers" ["tree"] sp_law_numbers) (Cw : Cal P w K mg base 2 "_law_grown" ["rules", "row", "most"] sp_law_grown) : FnOk P w K mg base CX0 38 f fd ["script"] (sp_law K) := by
  refine F.ok sc_law (fun vs H Q E h => ?_) (fun cdv A outer s H vs Q E hr h => ?_)
  · obtain ⟨a, ns, rfl, _⟩ := h
    rfl
  · obtain ⟨a, ns, rfl, ha, hl, q⟩ := h
    have nd := sc_law.nd
    refine ⟨_, pss_cons (ps_set (i := 1) nd rfl (Or.inl rfl) (pe_cal Cg (hr.mono (by decide)) rfl (pa_cons (pv 0) pa_nil)))
      (pss_cons (ps_set (i := 2) nd rfl (Or.inr rfl) (pe_cal Cr (hr.mono (by decide)) rfl (pa_cons (pv 0) (pa_cons (pv 1) (pa_cons pe_int pa_nil)))))
      (pss_cons (ps_set (i := 3) nd rfl (Or.inr rfl) (pe_cal Co (hr.mono (by decide)) rfl (pa_cons (pv 1) pa_nil)))
      (pss_cons (ps_set (i := 4) nd rfl (Or.inl rfl) (pe_cal Cc (hr.mono (by decide)) rfl (pa_cons (pv 3) (pa_cons (pv 2) pa_nil))))
      (pss_cons (ps_if (pt_cmp (pc_isN (pv 4))) (pss_one (ps_ret pe_bl)) pss_nil)
      (pss_cons (ps_set (i := 5) nd rfl (Or.inl rfl) (pe_op op_cat (LR.pe_listRgW rfl rfl B.list (prg_1 rfl B.range (pe_callB (call_min2 rfl) rfl B.min PyProof.Rows.boot_min (pa_cons (pv 4) (pa_cons pe_int pa_nil)) (by decide) (by decide)))) (LR.pe_listRgW rfl rfl B.list (prg_2 rfl B.range (pe_callB (call_max2 rfl) rfl B.max PyProof.Rows.boot_max (pa_cons pe_int (pa_cons (pe_op op_sub (pv 4) pe_int) pa_nil)) (by decide) (by decide)) (pv 4)))))
      (pss_cons (ps_setLc (i := 6) (own := [("number", 9)]) (g := gName 9) (tt := tYes) rfl nd rfl rfl rfl (pi_list (pv 5))
        (blkOk_by (N := ["script", "rules", "row", "grammar", "many", "numbers", "trees", "k", "rows", "number", "tree", "one"]) (sc := defScope st_law) (by decide +kernel))
        (fun _ _ _ _ _ => pg_name (i := 9) nd rfl (Or.inl rfl)) (fun _ _ _ _ _ => pts_nil)
        (fun _ _ _ _ _ => pe_cal Ct hr rfl (pa_cons (pv 3) (pa_cons (pv 2) (pa_cons (pv 9) pa_nil)))))
      (pss_cons (ps_for PassesOwn.never rfl (pi_range1 rfl B.range (pa_cons (pe_len B rfl (pv 6)) pa_nil)) (pg_name (i := 7) nd rfl (Or.inl rfl))
        (pss_one (ps_if (PW.pt (pw_or (pt_not (pt_val (pe_cal Ci (hr.mono (by decide)) rfl (pa_cons (pv 3) (pa_cons (pv 2) (pa_cons (pe_ix ix_list (pv 6) (pv 7) (fun _ _ => rfl)) pa_nil)))))) (pw_or1 (pt_cmpR (op_inD (hu65 hr)) (pe_ix ix_list (pv 6) (pv 7) (fun _ _ => rfl)) (pe_slice sl_list (pv 6) po_none (po_some (pv 7))) rfl))))
          (pss_one (ps_ret pe_bl)) pss_nil)))
      (pss_cons (ps_set (i := 8) nd rfl (Or.inr rfl) (pe_lc (own := [("tree", 10)]) (g := gName 10) (tt := tYes) rfl nd (pi_list (pv 6))
        (blkOk_by (N := ["script", "rules", "row", "grammar", "many", "numbers", "trees", "k", "rows", "number", "tree", "one"]) (sc := defScope st_law) (by decide +kernel))
        (fun _ _ _ _ _ => pg_name (i := 10) nd rfl (Or.inl rfl)) (fun _ _ _ _ _ => pts_nil)
        (fun _ _ _ _ _ => pe_cal Cn (hr.mono (by decide)) rfl (pa_cons (pv 10) pa_nil))))
      (pss_one (ps_ret (pe_or (pe_cmpR op_gt (pv 4) pe_int (nomark _)) (pe_one (pe_cmpR (op_eqE hr.units0) (pe_lc (own := [("one", 11)]) (g := gName 11) rfl nd (pi_list (pe_cal Cw (hr.mono (by decide)) rfl (pa_cons (pv 1) (pa_cons (pv 2) (pa_cons pe_int pa_nil)))))
        (blkOk_by (N := ["script", "rules", "row", "grammar", "many", "numbers", "trees", "k", "rows", "number", "tree", "one"]) (sc := defScope st_law) (by decide +kernel))
        (fun _ _ _ _ _ => pg_name (i := 11) nd rfl (Or.inl rfl))
        (fun _ _ _ _ _ => pts_one (pt_cmpR (ninD (K := K) (hu65 hr)) (pv 11) (pv 8) rfl))
        (fun _ _ _ _ _ => pv 11)) (pe_lst pa_nil) (nomark _)))))))))))))), ?_⟩
    refine ⟨_, rfl, a, ns, rfl, ha, hl, fun H1 g G s1 hg hGL LG => ?_⟩
    refine ⟨_, rfl, _, rfl, a, g, ns, G, rfl, sql_mono s1 ha, hl, hGL, LG, fun H2 ra row s2 hra hrow lrow hw4 => ?_⟩
    have S := LG.sized (row := row) lrow
    have hrw : ∀ x ∈ row, x ∈ all8 ∧ isN x = false := fun x hx => wd4_8 x (hw4 x hx)
    refine ⟨_, rfl, g, G, rfl, hGL.mono s2, LG.grOk, fun H3 gr s3 hgr hGL3 => ?_⟩
    have hrow3 : WL H3 ra row := s3 _ _ hrow
    refine ⟨_, rfl, _, rfl, gr, ra, G, row, rfl, hGL3, hrow3, S, fun H4 L V s4 hL hV hno => ?_, fun H4 L VV R s4 hL hV hT => ?_⟩
    · refine ⟨_, rfl, _, rfl, ?_⟩
      rw [decide_eq_true rfl]
      exact iteT (q _)
    · refine ⟨_, rfl, _, rfl, ?_⟩
      rw [decide_eq_false (fun z => nomatch z)]
      refine iteF ?_
      obtain ⟨r0, hr0⟩ : ∃ r0, G[0]? = some r0 := by
        cases hG0 : G with
        | nil => exact absurd hG0 S.g0
        | cons r0 G' => exact ⟨r0, rfl⟩
      have etop := topF_eq (row := row) hr0
      have hGv := grv_ok S hL hV
      generalize hM : manyT G row L VV = M at *
      -- the trees of the numbers
      have htree : ∀ n, n < M → topF G row ∈ sortF VV ∧ n < (TT G (Wf G row L) (topF G row)).length := fun n hn => by
        unfold manyT at hM
        split at hM
        · rename_i h
          refine ⟨mem_sortF.mpr h, ?_⟩
          show n < cnt G (Wf G row L) (topF G row)
          omega
        · omega
      have htr : ∀ n, n < M → trN G (Wf G row L) (topF G row) n ∈ TT G (Wf G row L) (topF G row) ∧ (TT G (Wf G row L) (topF G row))[n]? = some (trN G (Wf G row L) (topF G row) n) := fun n hn => by
        have h1 := (htree n hn).2
        unfold trN
        rw [List.getElem?_eq_getElem h1]
        exact ⟨List.getElem_mem h1, rfl⟩
      have hRT : ∀ n, n < M → RT G row r0.nm 0 row.length (trN G (Wf G row L) (topF G row) n) := fun n hn => by
        have := TL_sound 289 _ _ (htr n hn).1
        rw [etop] at this ⊢
        exact this
      have hinj : ∀ n m, n < M → m < M → trN G (Wf G row L) (topF G row) n = trN G (Wf G row L) (topF G row) m → n = m := fun n m hn hm e => by
        have h1 := (htr n hn).2
        have h2 := (htr m hm).2
        rw [← e] at h2
        have hnd : (TT G (Wf G row L) (topF G row)).Nodup := TL_nd 289 _
        exact nd_get_inj hnd h1 h2
      have hall : ∀ t, RT G row r0.nm 0 row.length t → ∃ n, n < M ∧ trN G (Wf G row L) (topF G row) n = t := fun t ht => by
        have hLt : topF G row ∈ L := hL.mem.mpr (by rw [etop]; exact ⟨Nat.zero_le _, t, ht⟩)
        have htV : topF G row ∈ VV := by
          rcases hV with ⟨h, _⟩ | ⟨_, k, hk⟩
          · exact absurd hLt h
          · have I := GInv.iter (row := row) hL hLt k
            rw [hk] at I
            rcases I.top with h | h
            · exact h
            · exact absurd h List.not_mem_nil
        have hin := ht.inTT S hL hV hT (Nat.zero_le _) (by rw [← etop]; exact mem_sortF.mpr htV)
        rw [← etop] at hin
        obtain ⟨n, hn⟩ := List.mem_iff_getElem?.mp hin
        have hnl := (List.getElem?_eq_some_iff.mp hn).1
        refine ⟨n, ?_, ?_⟩
        · unfold manyT at hM
          rw [if_pos htV] at hM
          show n < _
          rw [← hM]
          exact hnl
        · unfold trN
          rw [hn]
          rfl
      have hsz : ∀ n, n < M → szN (trN G (Wf G row L) (topF G row) n) ≤ 900000 := fun n hn => szOk G row L VV R S hL hV hT _ (htree n hn).1 _ (htr n hn).1
      have hdep : ∀ n, n < M → (eNd (trN G (Wf G row L) (topF G row) n)).depth ≤ 50 := fun n hn => depOk S hL hV hT (htree n hn).1 (htr n hn).1
      have hwd : ∀ n, n < M → wordsN (trN G (Wf G row L) (topF G row) n) = row := fun n hn => by
        have h1 := (hRT n hn).words.1
        rw [List.drop_zero, List.drop_length, List.append_nil] at h1
        exact h1.symm
      have hokw : ∀ x ∈ row, PyData.strOk x = true := fun x hx => all8_ok x (hrw x hx).1
      have hlay : ∀ n, n < M → (eNd (trN G (Wf G row L) (topF G row) n)).canLay0 = true ∧ (eNd (trN G (Wf G row L) (topF G row) n)).depth ≤ 60 := fun n hn => ⟨eNd_lay _ fun x hx => hokw x (by rw [hwd n hn] at hx; exact hx), Nat.le_trans (hdep n hn) (by decide)⟩
      have hloc : ∀ n, n < M → ∃ m cs r, trN G (Wf G row L) (topF G row) n = .nd m cs ∧ G[m]? = some r ∧ r.nm = r0.nm ∧ ∀ d, ∀ y ∈ knotsN (trN G (Wf G row L) (topF G row) n) d, ∃ m cs', y.1 = .nd m cs' ∧ LocOk G m cs' := fun n hn => (hRT n hn).loc
      -- numbers
      refine ⟨_, rfl, _, _, rfl, _, rfl, by split <;> omega, fun q1 hq1 => ?_⟩
      rw [rg_1]
      have t1 := same_new (o := .lst ((List.range (min M 15)).map vN)) hq1
      have e1 : (upd H4 q1 (.lst ((List.range (min M 15)).map vN))) q1 = some (.lst ((List.range (min M 15)).map vN)) := upd_same
      generalize upd H4 q1 (.lst ((List.range (min M 15)).map vN)) = H5 at *
      refine ⟨_, rfl, _, _, rfl, rfl, _, _, rfl, _, rfl, _, _, rfl, rfl, by split <;> omega, fun q2 hq2 => ?_⟩
      rw [rg_2]
      have t2 := same_new (o := .lst (((List.range (M - mxN M)).map fun i => mxN M + i).map vN)) hq2
      have e2 : (upd H5 q2 (.lst (((List.range (M - mxN M)).map fun i => mxN M + i).map vN))) q2 = some (.lst (((List.range (M - mxN M)).map fun i => mxN M + i).map vN)) := upd_same
      generalize upd H5 q2 (.lst (((List.range (M - mxN M)).map fun i => mxN M + i).map vN)) = H6 at *
      have hnl := numsN_len M
      refine ⟨q1, q2, _, _, rfl, rfl, t2 _ _ e1, e2, by
        unfold numsN at hnl
        rw [List.length_append] at hnl
        rw [List.length_map, List.length_map]
        exact small6' (by omega), fun q3 hq3 => ?_⟩
      rw [← List.map_append, show List.range (min M 15) ++ ((List.range (M - mxN M)).map fun i => mxN M + i) = numsN M from rfl]
      have t3 := same_new (o := .lst ((numsN M).map vN)) hq3
      have e3 : (upd H6 q3 (.lst ((numsN M).map vN))) q3 = some (.lst ((numsN M).map vN)) := upd_same
      generalize upd H6 q3 (.lst ((numsN M).map vN)) = H7 at *
      have s37 : Same H3 H7 := s4.trans (t1.trans (t2.trans t3))
      have hlt : ∀ n ∈ numsN M, n < M := fun n hn => numsN_lt hn
      have hndn := numsN_nd M
      have hallN : M ≤ 30 → ∀ n, n < M → n ∈ numsN M := fun h n hn => numsN_all h hn
      generalize hnums : numsN M = nums at *
      -- trees
      refine ⟨_, rfl, q3, rfl, ⟨_, SqL.of e3⟩, fun D hD => ?_⟩
      refine lc_list (K := K) (a := q3) (xs := nums.map vN) (fun i Hx => Same H7 Hx ∧ ∃ tvs, Hx D = some (.lst tvs) ∧ IsL Hx tvs ((nums.take i).map fun n => eNd (trN G (Wf G row L) (topF G row) n))) ⟨same_new hD, [], upd_same, .nil⟩ (fun i Hx _ h => SqL.of (h.1 _ _ e3)) ?_ ?_
      · rintro i x Hx hi ⟨sx, tvs, htv, hTI⟩
        rw [List.getElem?_map] at hi
        cases ei : nums[i]? with
        | none => rw [ei] at hi; cases hi
        | some n =>
          rw [ei] at hi
          cases hi
          have hnM := hlt n (List.mem_of_getElem? ei)
          have lt := hTI.length
          rw [List.length_map, List.length_take] at lt
          refine ⟨rfl, ?_⟩
          unfold tYes
          refine iteT ⟨_, rfl, _, rfl, _, rfl, gr, ra, G, row, n, L, VV, R, rfl, hGL3.mono (s37.trans sx), (s37.trans sx) _ _ hrow3, S, hL, hV, hT, by rw [hM]; exact hnM, fun H' v s' hv => ?_⟩
          have hD' := s' _ _ htv
          refine ⟨_, hD', small6 (by omega), same_upd (sx.trans s') hD, _, upd_same, ?_⟩
          rw [take_succ_of ei, List.map_append]
          exact ((hTI.mono s').monoT (TuS.lst hD')).append (.cons (hv.monoT (TuS.lst hD')) .nil)
      · rintro H8 ⟨s8, tvs, htv, hTI⟩
        rw [List.length_map, List.take_length] at hTI
        have lt := hTI.length
        rw [List.length_map] at lt
        have s38 := s37.trans s8
        refine ⟨_, rfl, D, _, rfl, .inl (SqL.of htv), _, rfl, by omega, by omega, ?_⟩
        rw [Int.toNat_natCast]
        refine for_range (lo := 0) (n := tvs.length) (fun i σ Hc => ∃ (o7 : Option V), σ = [some (.ref a), some (.ref g), some (.ref ra), some (.ref gr), some (.int (M : Int)), some (.ref q3), some (.ref D), o7, none, none, none, none] ∧ Same H8 Hc)
          ⟨none, rfl, Same.refl _⟩ ?_ ?_
        · rintro i σ Hc hi ⟨o7, rfl, sc⟩
          rw [show ((0 : Int) + (i : Int)) = (i : Int) from Int.zero_add _]
          obtain ⟨n, hn⟩ : ∃ n, nums[i]? = some n := ⟨_, List.getElem?_eq_getElem (by omega)⟩
          have hnM := hlt n (List.mem_of_getElem? hn)
          obtain ⟨v, hv1, hv2⟩ := hTI.get' (i := i) (d := eNd (trN G (Wf G row L) (topF G row) n)) (by rw [List.getElem?_map, hn]; rfl)
          obtain ⟨m, cs, r, et, hm, hrn, hkn⟩ := hloc n hnM
          have htc := sc _ _ htv
          have hlayn := hlay n hnM
          have hwdn := hwd n hnM
          have hszn := hsz n hnM
          have hkn1 := hkn 1
          rw [et] at hwdn hszn hkn1
          have hvc := hv2.mono sc
          refine ⟨_, rfl, _, rfl, _, rfl, _, rfl, D, _, _, _, rfl, rfl, SqL.of htc, atI_nat (j := i) hv1, gr, ra, v, G, row, m, cs, r0, r, rfl, hGL3.mono (s38.trans sc), (s38.trans sc) _ _ hrow3, LG.len, by rw [← et]; exact hvc, hszn, hr0, hm, hrn, hkn1, fun r hr => ⟨S.pl r hr, (S.sh r hr).2⟩, hwdn, hokw, fun H9 s9 => ?_⟩
          refine ⟨_, rfl, ?_⟩
          have ht9 := s9 _ _ htc
          refine iteF ⟨_, rfl, _, rfl, D, _, _, _, rfl, rfl, SqL.of ht9, atI_nat (j := i) hv1, _, rfl, _, rfl, _, rfl, D, _, rfl, SqL.of ht9, fun l hl => ?_⟩
          rw [cutV_takeV]
          have tl := same_new (o := .lst (tvs.take i)) hl
          have sI := sc.trans (s9.trans tl)
          have hTk : IsL (upd H9 l (.lst (tvs.take i))) (tvs.take i) ((nums.take i).map fun n => eNd (trN G (Wf G row L) (topF G row) n)) := by
            have := (hTI.mono sI).take i
            rwa [← List.map_take] at this
          refine ⟨eNd (trN G (Wf G row L) (topF G row) n), _, (hv2.mono sI).dp K, .lst (SqL.of upd_same) (hTk.dp K), shp1 hlayn, canAll fun d hd => ?_, _, rfl, ?_⟩
          · obtain ⟨y, hy, rfl⟩ := List.mem_map.mp hd
            exact hlay y (hlt y (List.mem_of_mem_take hy))
          · have hno : (((nums.take i).map fun n => eNd (trN G (Wf G row L) (topF G row) n)).any fun z => PyData.eqv z (eNd (trN G (Wf G row L) (topF G row) n))) = false := by
              rw [List.any_eq_false]
              intro z hz hzz
              obtain ⟨y, hy, rfl⟩ := List.mem_map.mp hz
              have hyn := hinj y n (hlt y (List.mem_of_mem_take hy)) hnM (eNd_inj _ _ hzz)
              subst hyn
              have hsp : nums = nums.take i ++ nums.drop i := (List.take_append_drop i nums).symm
              have hdr : y ∈ nums.drop i := by
                rw [List.drop_eq_getElem_cons (List.getElem?_eq_some_iff.mp hn).1, (List.getElem?_eq_some_iff.mp hn).2]
                exact List.mem_cons_self
              have hnd2 := hndn
              rw [hsp, List.nodup_append] at hnd2
              exact hnd2.2.2 y hy y hdr rfl
            rw [hno]
            exact iteF ⟨_, rfl, sI⟩
        · rintro σ Hc ⟨o7, rfl, sc⟩
          have htc := sc _ _ htv
          have hTIc := hTI.mono sc
          -- rows
          refine ⟨_, rfl, D, rfl, ⟨_, SqL.of htc⟩, fun D2 hD2 => ?_⟩
          refine lc_list (K := K) (a := D) (xs := tvs) (fun i Hx => Same Hc Hx ∧ ∃ rvs, Hx D2 = some (.lst rvs) ∧ Paired (NV (but Hx D2)) rvs ((nums.take i).map fun n => preN (trN G (Wf G row L) (topF G row) n))) ⟨same_new hD2, [], upd_same, .nil⟩ (fun i Hx _ h => SqL.of (h.1 _ _ htc)) ?_ ?_
          · rintro i x Hx hi ⟨sx, rvs, hrv, hRI⟩
            obtain ⟨n, hn⟩ : ∃ n, nums[i]? = some n := ⟨_, List.getElem?_eq_getElem (by have := (List.getElem?_eq_some_iff.mp hi).1; omega)⟩
            have hnM := hlt n (List.mem_of_getElem? hn)
            obtain ⟨d, hd1, hd2⟩ := hTIc.get hi
            rw [List.getElem?_map, hn] at hd1
            cases hd1
            have lr := Paired.length hRI
            rw [List.length_map, List.length_take] at lr
            refine ⟨rfl, ?_⟩
            unfold tYes
            refine iteT ⟨_, rfl, x, trN G (Wf G row L) (topF G row) n, rfl, hd2.mono sx, hsz n hnM, fun H' p s' hp hp2 => ?_⟩
            have hr' := s' _ _ hrv
            have hpD : p ≠ D2 := fun z => by subst z; rw [hrv] at hp; cases hp
            refine ⟨rvs, hr', small6 (by omega), same_upd (sx.trans s') hD2, _, upd_same, ?_⟩
            have sbb : Same (but Hx D2) (but (upd H' D2 (.lst (rvs ++ [.ref p]))) D2) := same_but (same_upd (but_same.trans s') but_none) but_none
            rw [take_succ_of hn, List.map_append]
            refine (hRI.mono fun _ _ q => q.mono sbb).snoc ⟨p, rfl, ?_⟩
            unfold NL
            rw [but_ne hpD, upd_ne hpD]
            exact hp2
          · rintro Hd ⟨sd, rvs, hrv, hRI⟩
            rw [lt, List.take_length] at hRI
            have s3d := (s38.trans sc).trans sd
            refine ⟨_, rfl, _, _, rfl, rfl, _, rfl, ?_⟩
            by_cases h30 : 30 < M
            · rw [decide_eq_true (show (30 : Int) < (M : Int) by omega)]
              exact iteT (q _)
            · rw [decide_eq_false (show ¬ (30 : Int) < (M : Int) by omega)]
              have hg3 : LD Hd g (G.map eRl) := (hGL.mono s2).mono (s3.trans s3d)
              refine iteF ⟨_, rfl, _, rfl, g, ra, G, row, r0, rfl, hg3, s3d _ _ hrow3, LG.len, lrow, LG.in8, hrw, hr0, fun He p Fs se hLL hFs lFs hFn => ?_⟩
              obtain ⟨fvs, hfv, hFI⟩ := hLL
              have lf := Paired.length hFI
              have hre := se _ _ hrv
              refine ⟨p, rfl, ⟨_, SqL.of hfv⟩, fun D3 hD3 => ?_⟩
              refine lc_list (K := K) (a := p) (xs := fvs) (fun i Hx => Same He Hx ∧ Hx D3 = some (.lst [])) ⟨same_new hD3, upd_same⟩ (fun i Hx _ h => SqL.of (h.1 _ _ hfv)) ?_ ?_
              · rintro i x Hx hi ⟨sx, hx3⟩
                obtain ⟨f1, hf1, hf2⟩ := paired_get hFI hi
                obtain ⟨t, ht, hpt⟩ := hFs f1 (List.mem_of_getElem? hf1)
                obtain ⟨n, hnM, hnt⟩ := hall t ht
                have hnn := hallN (by omega) n hnM
                refine ⟨rfl, ?_⟩
                refine ⟨_, rfl, _, rfl, eNs f1, (nums.map fun n => preN (trN G (Wf G row L) (topF G row) n)).map eNs, (hf2.mono sx).dp, .lst (SqL.of (sx _ _ hre)) (LL.dps ((hRI.mono fun _ _ q => (q.mono but_same).mono (se.trans sx)))), shp1 (eNs_ok f1), canAll fun d hd => ?_, _, rfl, ?_⟩
                · obtain ⟨y, _, rfl⟩ := List.mem_map.mp hd
                  exact eNs_ok y
                · have hyes : (((nums.map fun n => preN (trN G (Wf G row L) (topF G row) n)).map eNs).any fun z => PyData.eqv z (eNs f1)) = true := by
                    rw [List.any_eq_true]
                    refine ⟨eNs f1, List.mem_map.mpr ⟨f1, List.mem_map.mpr ⟨n, hnn, by rw [hnt]; exact hpt⟩, rfl⟩, SeqAt.eqv_refl _ (eNs_ok f1).1⟩
                  rw [hyes]
                  exact iteF ⟨sx, hx3⟩
              · rintro Hx ⟨sx, hx3⟩
                refine ⟨by decide, fun l hl => ⟨D3, l, [], rfl, rfl, SqL.of ((same_new hl) _ _ hx3), SqL.of upd_same, q _⟩⟩
end
end Rg
namespace Rg
open PySem PySem.Spec L2
theorem all_mk {l : PySem.W.OpenLaw} {w : World} {K : PySem.W.Frag} {h : Heap} {mg : Str → Option Value} {fa : Addr} (X : K.In h) (G : h.Ns mainGlobals mg) (hfa : mg "law" = some (.ref fa)) (ht : l.prog.given.tree = none)
    {f1 : Addr} {od1 an1 : Option Addr} {sl1 : Array (Option Value)} {oc1 kV1 dc1 pm1 cd1 ct1 : Value}
    {f2 : Addr} {od2 an2 : Option Addr} {sl2 : Array (Option Value)} {oc2 kV2 dc2 pm2 cd2 ct2 : Value}
    {f3 : Addr} {od3 an3 : Option Addr} {sl3 : Array (Option Value)} {oc3 kV3 dc3 pm3 cd3 ct3 : Value}
    {f4 : Addr} {od4 an4 : Option Addr} {sl4 : Array (Option Value)} {oc4 kV4 dc4 pm4 cd4 ct4 : Value}
    {f5 : Addr} {od5 an5 : Option Addr} {sl5 : Array (Option Value)} {oc5 kV5 dc5 pm5 cd5 ct5 : Value}
    {f6 : Addr} {od6 an6 : Option Addr} {sl6 : Array (Option Value)} {oc6 kV6 dc6 pm6 cd6 ct6 : Value}
    {f7 : Addr} {od7 an7 : Option Addr} {sl7 : Array (Option Value)} {oc7 kV7 dc7 pm7 cd7 ct7 : Value}
    {f8 : Addr} {od8 an8 : Option Addr} {sl8 : Array (Option Value)} {oc8 kV8 dc8 pm8 cd8 ct8 : Value}
    {f9 : Addr} {od9 an9 : Option Addr} {sl9 : Array (Option Value)} {oc9 kV9 dc9 pm9 cd9 ct9 : Value}
    {f10 : Addr} {od10 an10 : Option Addr} {sl10 : Array (Option Value)} {oc10 kV10 dc10 pm10 cd10 ct10 : Value}
    {f11 : Addr} {od11 an11 : Option Addr} {sl11 : Array (Option Value)} {oc11 kV11 dc11 pm11 cd11 ct11 : Value}
    {f12 : Addr} {od12 an12 : Option Addr} {sl12 : Array (Option Value)} {oc12 kV12 dc12 pm12 cd12 ct12 : Value}
    {f13 : Addr} {od13 an13 : Option Addr} {sl13 : Array (Option Value)} {oc13 kV13 dc13 pm13 cd13 ct13 : Value}
    {f14 : Addr} {od14 an14 : Option Addr} {sl14 : Array (Option Value)} {oc14 kV14 dc14 pm14 cd14 ct14 : Value}
    {f15 : Addr} {od15 an15 : Option Addr} {sl15 : Array (Option Value)} {oc15 kV15 dc15 pm15 cd15 ct15 : Value}
    {f16 : Addr} {od16 an16 : Option Addr} {sl16 : Array (Option Value)} {oc16 kV16 dc16 pm16 cd16 ct16 : Value}
    {f17 : Addr} {od17 an17 : Option Addr} {sl17 : Array (Option Value)} {oc17 kV17 dc17 pm17 cd17 ct17 : Value}
    {f18 : Addr} {od18 an18 : Option Addr} {sl18 : Array (Option Value)} {oc18 kV18 dc18 pm18 cd18 ct18 : Value}
    {f19 : Addr} {od19 an19 : Option Addr} {sl19 : Array (Option Value)} {oc19 kV19 dc19 pm19 cd19 ct19 : Value}
    {f20 : Addr} {od20 an20 : Option Addr} {sl20 : Array (Option Value)} {oc20 kV20 dc20 pm20 cd20 ct20 : Value}
    {f21 : Addr} {od21 an21 : Option Addr} {sl21 : Array (Option Value)} {oc21 kV21 dc21 pm21 cd21 ct21 : Value}
    {f22 : Addr} {od22 an22 : Option Addr} {sl22 : Array (Option Value)} {oc22 kV22 dc22 pm22 cd22 ct22 : Value}
    {f23 : Addr} {od23 an23 : Option Addr} {sl23 : Array (Option Value)} {oc23 kV23 dc23 pm23 cd23 ct23 : Value}
    {f24 : Addr} {od24 an24 : Option Addr} {sl24 : Array (Option Value)} {oc24 kV24 dc24 pm24 cd24 ct24 : Value}
    {f25 : Addr} {od25 an25 : Option Addr} {sl25 : Array (Option Value)} {oc25 kV25 dc25 pm25 cd25 ct25 : Value}
    {f26 : Addr} {od26 an26 : Option Addr} {sl26 : Array (Option Value)} {oc26 kV26 dc26 pm26 cd26 ct26 : Value}
    {f27 : Addr} {od27 an27 : Option Addr} {sl27 : Array (Option Value)} {oc27 kV27 dc27 pm27 cd27 ct27 : Value}
    {f28 : Addr} {od28 an28 : Option Addr} {sl28 : Array (Option Value)} {oc28 kV28 dc28 pm28 cd28 ct28 : Value}
    {f29 : Addr} {od29 an29 : Option Addr} {sl29 : Array (Option Value)} {oc29 kV29 dc29 pm29 cd29 ct29 : Value}
    {f30 : Addr} {od30 an30 : Option Addr} {sl30 : Array (Option Value)} {oc30 kV30 dc30 pm30 cd30 ct30 : Value}
    {f31 : Addr} {od31 an31 : Option Addr} {sl31 : Array (Option Value)} {oc31 kV31 dc31 pm31 cd31 ct31 : Value}
    {f32 : Addr} {od32 an32 : Option Addr} {sl32 : Array (Option Value)} {oc32 kV32 dc32 pm32 cd32 ct32 : Value}
    {f33 : Addr} {od33 an33 : Option Addr} {sl33 : Array (Option Value)} {oc33 kV33 dc33 pm33 cd33 ct33 : Value}
    {f34 : Addr} {od34 an34 : Option Addr} {sl34 : Array (Option Value)} {oc34 kV34 dc34 pm34 cd34 ct34 : Value}
    {f35 : Addr} {od35 an35 : Option Addr} {sl35 : Array (Option Value)} {oc35 kV35 dc35 pm35 cd35 ct35 : Value}
    {f36 : Addr} {od36 an36 : Option Addr} {sl36 : Array (Option Value)} {oc36 kV36 dc36 pm36 cd36 ct36 : Value} {tg : Tok}
    (a1 : PySem.W.nsIn K mainGlobals "is_name" = some (some (.ref f1))) (l1 : K.lookup f1 = some ⟨oc1, od1, .func (PySem.W.fnOf "is_name" "is_name" (defArgs st_is_name) (defBody st_is_name) (defScope st_is_name) .none kV1 dc1 pm1 an1 cd1 ct1), sl1⟩) (c1 : PySem.W.codeIn K cd1 "is_name" = true) (k1 : PySem.W.keepIn K (.ref f1) = true)
    (a2 : PySem.W.nsIn K mainGlobals "names" = some (some (.ref f2))) (l2 : K.lookup f2 = some ⟨oc2, od2, .func (PySem.W.fnOf "names" "names" (defArgs st_names) (defBody st_names) (defScope st_names) .none kV2 dc2 pm2 an2 cd2 ct2), sl2⟩) (c2 : PySem.W.codeIn K cd2 "names" = true) (k2 : PySem.W.keepIn K (.ref f2) = true)
    (a3 : PySem.W.nsIn K mainGlobals "rules_of" = some (some (.ref f3))) (l3 : K.lookup f3 = some ⟨oc3, od3, .func (PySem.W.fnOf "rules_of" "rules_of" (defArgs st_rules_of) (defBody st_rules_of) (defScope st_rules_of) .none kV3 dc3 pm3 an3 cd3 ct3), sl3⟩) (c3 : PySem.W.codeIn K cd3 "rules_of" = true) (k3 : PySem.W.keepIn K (.ref f3) = true)
    (a4 : PySem.W.nsIn K mainGlobals "grammar_of" = some (some (.ref f4))) (l4 : K.lookup f4 = some ⟨oc4, od4, .func (PySem.W.fnOf "grammar_of" "grammar_of" (defArgs st_grammar_of) (defBody st_grammar_of) (defScope st_grammar_of) .none kV4 dc4 pm4 an4 cd4 ct4), sl4⟩) (c4 : PySem.W.codeIn K cd4 "grammar_of" = true) (k4 : PySem.W.keepIn K (.ref f4) = true)
    (a5 : PySem.W.nsIn K mainGlobals "add_end" = some (some (.ref f5))) (l5 : K.lookup f5 = some ⟨oc5, od5, .func (PySem.W.fnOf "add_end" "add_end" (defArgs st_add_end) (defBody st_add_end) (defScope st_add_end) .none kV5 dc5 pm5 an5 cd5 ct5), sl5⟩) (c5 : PySem.W.codeIn K cd5 "add_end" = true) (k5 : PySem.W.keepIn K (.ref f5) = true)
    (a6 : PySem.W.nsIn K mainGlobals "ends_of" = some (some (.ref f6))) (l6 : K.lookup f6 = some ⟨oc6, od6, .func (PySem.W.fnOf "ends_of" "ends_of" (defArgs st_ends_of) (defBody st_ends_of) (defScope st_ends_of) .none kV6 dc6 pm6 an6 cd6 ct6), sl6⟩) (c6 : PySem.W.codeIn K cd6 "ends_of" = true) (k6 : PySem.W.keepIn K (.ref f6) = true)
    (a7 : PySem.W.nsIn K mainGlobals "places_behind" = some (some (.ref f7))) (l7 : K.lookup f7 = some ⟨oc7, od7, .func (PySem.W.fnOf "places_behind" "places_behind" (defArgs st_places_behind) (defBody st_places_behind) (defScope st_places_behind) .none kV7 dc7 pm7 an7 cd7 ct7), sl7⟩) (c7 : PySem.W.codeIn K cd7 "places_behind" = true) (k7 : PySem.W.keepIn K (.ref f7) = true)
    (a8 : PySem.W.nsIn K mainGlobals "cuts_from" = some (some (.ref f8))) (l8 : K.lookup f8 = some ⟨oc8, od8, .func (PySem.W.fnOf "cuts_from" "cuts_from" (defArgs st_cuts_from) (defBody st_cuts_from) (defScope st_cuts_from) .none kV8 dc8 pm8 an8 cd8 ct8), sl8⟩) (c8 : PySem.W.codeIn K cd8 "cuts_from" = true) (k8 : PySem.W.keepIn K (.ref f8) = true)
    (a9 : PySem.W.nsIn K mainGlobals "covered" = some (some (.ref f9))) (l9 : K.lookup f9 = some ⟨oc9, od9, .func (PySem.W.fnOf "covered" "covered" (defArgs st_covered) (defBody st_covered) (defScope st_covered) .none kV9 dc9 pm9 an9 cd9 ct9), sl9⟩) (c9 : PySem.W.codeIn K cd9 "covered" = true) (k9 : PySem.W.keepIn K (.ref f9) = true)
    (a10 : PySem.W.nsIn K mainGlobals "found_facts" = some (some (.ref f10))) (l10 : K.lookup f10 = some ⟨oc10, od10, .func (PySem.W.fnOf "found_facts" "found_facts" (defArgs st_found_facts) (defBody st_found_facts) (defScope st_found_facts) .none kV10 dc10 pm10 an10 cd10 ct10), sl10⟩) (c10 : PySem.W.codeIn K cd10 "found_facts" = true) (k10 : PySem.W.keepIn K (.ref f10) = true)
    (a11 : PySem.W.nsIn K mainGlobals "facts" = some (some (.ref f11))) (l11 : K.lookup f11 = some ⟨oc11, od11, .func (PySem.W.fnOf "facts" "facts" (defArgs st_facts) (defBody st_facts) (defScope st_facts) .none kV11 dc11 pm11 an11 cd11 ct11), sl11⟩) (c11 : PySem.W.codeIn K cd11 "facts" = true) (k11 : PySem.W.keepIn K (.ref f11) = true)
    (a12 : PySem.W.nsIn K mainGlobals "parts_of" = some (some (.ref f12))) (l12 : K.lookup f12 = some ⟨oc12, od12, .func (PySem.W.fnOf "parts_of" "parts_of" (defArgs st_parts_of) (defBody st_parts_of) (defScope st_parts_of) .none kV12 dc12 pm12 an12 cd12 ct12), sl12⟩) (c12 : PySem.W.codeIn K cd12 "parts_of" = true) (k12 : PySem.W.keepIn K (.ref f12) = true)
    (a13 : PySem.W.nsIn K mainGlobals "ways_of" = some (some (.ref f13))) (l13 : K.lookup f13 = some ⟨oc13, od13, .func (PySem.W.fnOf "ways_of" "ways_of" (defArgs st_ways_of) (defBody st_ways_of) (defScope st_ways_of) .none kV13 dc13 pm13 an13 cd13 ct13), sl13⟩) (c13 : PySem.W.codeIn K cd13 "ways_of" = true) (k13 : PySem.W.keepIn K (.ref f13) = true)
    (a14 : PySem.W.nsIn K mainGlobals "grove" = some (some (.ref f14))) (l14 : K.lookup f14 = some ⟨oc14, od14, .func (PySem.W.fnOf "grove" "grove" (defArgs st_grove) (defBody st_grove) (defScope st_grove) .none kV14 dc14 pm14 an14 cd14 ct14), sl14⟩) (c14 : PySem.W.codeIn K cd14 "grove" = true) (k14 : PySem.W.keepIn K (.ref f14) = true)
    (a15 : PySem.W.nsIn K mainGlobals "beneath" = some (some (.ref f15))) (l15 : K.lookup f15 = some ⟨oc15, od15, .func (PySem.W.fnOf "beneath" "beneath" (defArgs st_beneath) (defBody st_beneath) (defScope st_beneath) .none kV15 dc15 pm15 an15 cd15 ct15), sl15⟩) (c15 : PySem.W.codeIn K cd15 "beneath" = true) (k15 : PySem.W.keepIn K (.ref f15) = true)
    (a16 : PySem.W.nsIn K mainGlobals "gone_down" = some (some (.ref f16))) (l16 : K.lookup f16 = some ⟨oc16, od16, .func (PySem.W.fnOf "gone_down" "gone_down" (defArgs st_gone_down) (defBody st_gone_down) (defScope st_gone_down) .none kV16 dc16 pm16 an16 cd16 ct16), sl16⟩) (c16 : PySem.W.codeIn K cd16 "gone_down" = true) (k16 : PySem.W.keepIn K (.ref f16) = true)
    (a17 : PySem.W.nsIn K mainGlobals "way_count" = some (some (.ref f17))) (l17 : K.lookup f17 = some ⟨oc17, od17, .func (PySem.W.fnOf "way_count" "way_count" (defArgs st_way_count) (defBody st_way_count) (defScope st_way_count) .none kV17 dc17 pm17 an17 cd17 ct17), sl17⟩) (c17 : PySem.W.codeIn K cd17 "way_count" = true) (k17 : PySem.W.keepIn K (.ref f17) = true)
    (a18 : PySem.W.nsIn K mainGlobals "counts_of" = some (some (.ref f18))) (l18 : K.lookup f18 = some ⟨oc18, od18, .func (PySem.W.fnOf "counts_of" "counts_of" (defArgs st_counts_of) (defBody st_counts_of) (defScope st_counts_of) .none kV18 dc18 pm18 an18 cd18 ct18), sl18⟩) (c18 : PySem.W.codeIn K cd18 "counts_of" = true) (k18 : PySem.W.keepIn K (.ref f18) = true)
    (a19 : PySem.W.nsIn K mainGlobals "grove_count" = some (some (.ref f19))) (l19 : K.lookup f19 = some ⟨oc19, od19, .func (PySem.W.fnOf "grove_count" "grove_count" (defArgs st_grove_count) (defBody st_grove_count) (defScope st_grove_count) .none kV19 dc19 pm19 an19 cd19 ct19), sl19⟩) (c19 : PySem.W.codeIn K cd19 "grove_count" = true) (k19 : PySem.W.keepIn K (.ref f19) = true)
    (a20 : PySem.W.nsIn K mainGlobals "way_numbered" = some (some (.ref f20))) (l20 : K.lookup f20 = some ⟨oc20, od20, .func (PySem.W.fnOf "way_numbered" "way_numbered" (defArgs st_way_numbered) (defBody st_way_numbered) (defScope st_way_numbered) .none kV20 dc20 pm20 an20 cd20 ct20), sl20⟩) (c20 : PySem.W.codeIn K cd20 "way_numbered" = true) (k20 : PySem.W.keepIn K (.ref f20) = true)
    (a21 : PySem.W.nsIn K mainGlobals "tasks_of" = some (some (.ref f21))) (l21 : K.lookup f21 = some ⟨oc21, od21, .func (PySem.W.fnOf "tasks_of" "tasks_of" (defArgs st_tasks_of) (defBody st_tasks_of) (defScope st_tasks_of) .none kV21 dc21 pm21 an21 cd21 ct21), sl21⟩) (c21 : PySem.W.codeIn K cd21 "tasks_of" = true) (k21 : PySem.W.keepIn K (.ref f21) = true)
    (a22 : PySem.W.nsIn K mainGlobals "tree_numbered" = some (some (.ref f22))) (l22 : K.lookup f22 = some ⟨oc22, od22, .func (PySem.W.fnOf "tree_numbered" "tree_numbered" (defArgs st_tree_numbered) (defBody st_tree_numbered) (defScope st_tree_numbered) .none kV22 dc22 pm22 an22 cd22 ct22), sl22⟩) (c22 : PySem.W.codeIn K cd22 "tree_numbered" = true) (k22 : PySem.W.keepIn K (.ref f22) = true)
    (a23 : PySem.W.nsIn K mainGlobals "row_of" = some (some (.ref f23))) (l23 : K.lookup f23 = some ⟨oc23, od23, .func (PySem.W.fnOf "row_of" "row_of" (defArgs st_row_of) (defBody st_row_of) (defScope st_row_of) .none kV23 dc23 pm23 an23 cd23 ct23), sl23⟩) (c23 : PySem.W.codeIn K cd23 "row_of" = true) (k23 : PySem.W.keepIn K (.ref f23) = true)
    (a24 : PySem.W.nsIn K mainGlobals "_law_numbers" = some (some (.ref f24))) (l24 : K.lookup f24 = some ⟨oc24, od24, .func (PySem.W.fnOf "_law_numbers" "_law_numbers" (defArgs st_law_numbers) (defBody st_law_numbers) (defScope st_law_numbers) .none kV24 dc24 pm24 an24 cd24 ct24), sl24⟩) (c24 : PySem.W.codeIn K cd24 "_law_numbers" = true) (k24 : PySem.W.keepIn K (.ref f24) = true)
    (a25 : PySem.W.nsIn K mainGlobals "all_knots" = some (some (.ref f25))) (l25 : K.lookup f25 = some ⟨oc25, od25, .func (PySem.W.fnOf "all_knots" "all_knots" (defArgs st_all_knots) (defBody st_all_knots) (defScope st_all_knots) .none kV25 dc25 pm25 an25 cd25 ct25), sl25⟩) (c25 : PySem.W.codeIn K cd25 "all_knots" = true) (k25 : PySem.W.keepIn K (.ref f25) = true)
    (a26 : PySem.W.nsIn K mainGlobals "is_made" = some (some (.ref f26))) (l26 : K.lookup f26 = some ⟨oc26, od26, .func (PySem.W.fnOf "is_made" "is_made" (defArgs st_is_made) (defBody st_is_made) (defScope st_is_made) .none kV26 dc26 pm26 an26 cd26 ct26), sl26⟩) (c26 : PySem.W.codeIn K cd26 "is_made" = true) (k26 : PySem.W.keepIn K (.ref f26) = true)
    (a27 : PySem.W.nsIn K mainGlobals "right_tree" = some (some (.ref f27))) (l27 : K.lookup f27 = some ⟨oc27, od27, .func (PySem.W.fnOf "right_tree" "right_tree" (defArgs st_right_tree) (defBody st_right_tree) (defScope st_right_tree) .none kV27 dc27 pm27 an27 cd27 ct27), sl27⟩) (c27 : PySem.W.codeIn K cd27 "right_tree" = true) (k27 : PySem.W.keepIn K (.ref f27) = true)
    (a28 : PySem.W.nsIn K mainGlobals "is_reading" = some (some (.ref f28))) (l28 : K.lookup f28 = some ⟨oc28, od28, .func (PySem.W.fnOf "is_reading" "is_reading" (defArgs st_is_reading) (defBody st_is_reading) (defScope st_is_reading) .none kV28 dc28 pm28 an28 cd28 ct28), sl28⟩) (c28 : PySem.W.codeIn K cd28 "is_reading" = true) (k28 : PySem.W.keepIn K (.ref f28) = true)
    (a29 : PySem.W.nsIn K mainGlobals "_law_cell" = some (some (.ref f29))) (l29 : K.lookup f29 = some ⟨oc29, od29, .func (PySem.W.fnOf "_law_cell" "_law_cell" (defArgs st_law_cell) (defBody st_law_cell) (defScope st_law_cell) .none kV29 dc29 pm29 an29 cd29 ct29), sl29⟩) (c29 : PySem.W.codeIn K cd29 "_law_cell" = true) (k29 : PySem.W.keepIn K (.ref f29) = true)
    (a30 : PySem.W.nsIn K mainGlobals "_law_stir" = some (some (.ref f30))) (l30 : K.lookup f30 = some ⟨oc30, od30, .func (PySem.W.fnOf "_law_stir" "_law_stir" (defArgs st_law_stir) (defBody st_law_stir) (defScope st_law_stir) .none kV30 dc30 pm30 an30 cd30 ct30), sl30⟩) (c30 : PySem.W.codeIn K cd30 "_law_stir" = true) (k30 : PySem.W.keepIn K (.ref f30) = true)
    (a31 : PySem.W.nsIn K mainGlobals "_law_drawn" = some (some (.ref f31))) (l31 : K.lookup f31 = some ⟨oc31, od31, .func (PySem.W.fnOf "_law_drawn" "_law_drawn" (defArgs st_law_drawn) (defBody st_law_drawn) (defScope st_law_drawn) .none kV31 dc31 pm31 an31 cd31 ct31), sl31⟩) (c31 : PySem.W.codeIn K cd31 "_law_drawn" = true) (k31 : PySem.W.keepIn K (.ref f31) = true)
    (a32 : PySem.W.nsIn K mainGlobals "_law_grammar" = some (some (.ref f32))) (l32 : K.lookup f32 = some ⟨oc32, od32, .func (PySem.W.fnOf "_law_grammar" "_law_grammar" (defArgs st_law_grammar) (defBody st_law_grammar) (defScope st_law_grammar) .none kV32 dc32 pm32 an32 cd32 ct32), sl32⟩) (c32 : PySem.W.codeIn K cd32 "_law_grammar" = true) (k32 : PySem.W.keepIn K (.ref f32) = true)
    (a33 : PySem.W.nsIn K mainGlobals "_law_is_name" = some (some (.ref f33))) (l33 : K.lookup f33 = some ⟨oc33, od33, .func (PySem.W.fnOf "_law_is_name" "_law_is_name" (defArgs st_law_is_name) (defBody st_law_is_name) (defScope st_law_is_name) .none kV33 dc33 pm33 an33 cd33 ct33), sl33⟩) (c33 : PySem.W.codeIn K cd33 "_law_is_name" = true) (k33 : PySem.W.keepIn K (.ref f33) = true)
    (a34 : PySem.W.nsIn K mainGlobals "_law_row" = some (some (.ref f34))) (l34 : K.lookup f34 = some ⟨oc34, od34, .func (PySem.W.fnOf "_law_row" "_law_row" (defArgs st_law_row) (defBody st_law_row) (defScope st_law_row) .none kV34 dc34 pm34 an34 cd34 ct34), sl34⟩) (c34 : PySem.W.codeIn K cd34 "_law_row" = true) (k34 : PySem.W.keepIn K (.ref f34) = true)
    (a35 : PySem.W.nsIn K mainGlobals "_law_grown" = some (some (.ref f35))) (l35 : K.lookup f35 = some ⟨oc35, od35, .func (PySem.W.fnOf "_law_grown" "_law_grown" (defArgs st_law_grown) (defBody st_law_grown) (defScope st_law_grown) .none kV35 dc35 pm35 an35 cd35 ct35), sl35⟩) (c35 : PySem.W.codeIn K cd35 "_law_grown" = true) (k35 : PySem.W.keepIn K (.ref f35) = true)
    (a36 : PySem.W.nsIn K mainGlobals "law" = some (some (.ref f36))) (l36 : K.lookup f36 = some ⟨oc36, od36, .func (PySem.W.fnOf "law" "law" (defArgs st_law) (defBody st_law) (defScope st_law) .none kV36 dc36 pm36 an36 cd36 ct36), sl36⟩) (c36 : PySem.W.codeIn K cd36 "law" = true) (k36 : PySem.W.keepIn K (.ref f36) = true)
    (gG : PySem.W.nsIn K mainGlobals "GREAT" = some (some (.str great tg)))
    (z1 : PySem.W.nsIn K mainGlobals "len" = some none) (z2 : PySem.W.nsIn K mainGlobals "range" = some none) (z3 : PySem.W.nsIn K mainGlobals "enumerate" = some none) (z4 : PySem.W.nsIn K mainGlobals "tuple" = some none) (z5 : PySem.W.nsIn K mainGlobals "list" = some none) (z6 : PySem.W.nsIn K mainGlobals "sorted" = some none) (z7 : PySem.W.nsIn K mainGlobals "dict" = some none) (z8 : PySem.W.nsIn K mainGlobals "reversed" = some none) (z9 : PySem.W.nsIn K mainGlobals "zip" = some none) (z10 : PySem.W.nsIn K mainGlobals "divmod" = some none) (z11 : PySem.W.nsIn K mainGlobals "isinstance" = some none) (z12 : PySem.W.nsIn K mainGlobals "str" = some none) (z13 : PySem.W.nsIn K mainGlobals "sum" = some none) (z14 : PySem.W.nsIn K mainGlobals "min" = some none) (z15 : PySem.W.nsIn K mainGlobals "max" = some none) (z16 : PySem.W.nsIn K mainGlobals "all" = some none) (z17 : PySem.W.nsIn K mainGlobals "int" = some none) :
    ∃ fd : FuncData, (∀ (s : Shared) (v : Value), BindsTo s fd ⟨[v], []⟩ [("script", v)]) ∧ ∀ base : Heap, K.In base → base.Ns mainGlobals mg → base.NoSeer → FnOk l.prog w K mg base CX0 38 fa fd ["script"] (sp_law K) := by
  have e := hfa.symm.trans (PySem.W.mg_of X G a36)
  cases e
  have B : Bl mg := ⟨PySem.W.mg_none_of X G z1, PySem.W.mg_none_of X G z2, PySem.W.mg_none_of X G z3, PySem.W.mg_none_of X G z4, PySem.W.mg_none_of X G z5, PySem.W.mg_none_of X G z6, PySem.W.mg_none_of X G z7, PySem.W.mg_none_of X G z8, PySem.W.mg_none_of X G z9, PySem.W.mg_none_of X G z10, PySem.W.mg_none_of X G z11, PySem.W.mg_none_of X G z12, PySem.W.mg_none_of X G z13, PySem.W.mg_none_of X G z14, PySem.W.mg_none_of X G z15, PySem.W.mg_none_of X G z16, PySem.W.mg_none_of X G z17⟩
  have F1 := fun_mk (st := st_is_name) l1 c1 k1
  have b1 := F1.binds (ps := ["part"]) fun _ _ _ _ _ _ us hl => match us, hl with | [_], _ => rfl
  have F2 := fun_mk (st := st_names) l2 c2 k2
  have b2 := F2.binds (ps := ["grammar"]) fun _ _ _ _ _ _ us hl => match us, hl with | [_], _ => rfl
  have F3 := fun_mk (st := st_rules_of) l3 c3 k3
  have b3 := F3.binds (ps := ["grammar", "name"]) fun _ _ _ _ _ _ us hl => match us, hl with | [_, _], _ => rfl
  have F4 := fun_mk (st := st_grammar_of) l4 c4 k4
  have b4 := F4.binds (ps := ["rules"]) fun _ _ _ _ _ _ us hl => match us, hl with | [_], _ => rfl
  have F5 := fun_mk (st := st_add_end) l5 c5 k5
  have b5 := F5.binds (ps := ["ends", "name", "begin", "end"]) fun _ _ _ _ _ _ us hl => match us, hl with | [_, _, _, _], _ => rfl
  have F6 := fun_mk (st := st_ends_of) l6 c6 k6
  have b6 := F6.binds (ps := ["known", "many"]) fun _ _ _ _ _ _ us hl => match us, hl with | [_, _], _ => rfl
  have F7 := fun_mk (st := st_places_behind) l7 c7 k7
  have b7 := F7.binds (ps := ["row", "ends", "part", "place"]) fun _ _ _ _ _ _ us hl => match us, hl with | [_, _, _, _], _ => rfl
  have F8 := fun_mk (st := st_cuts_from) l8 c8 k8
  have b8 := F8.binds (ps := ["row", "ends", "parts", "begin", "last"]) fun _ _ _ _ _ _ us hl => match us, hl with | [_, _, _, _, _], _ => rfl
  have F9 := fun_mk (st := st_covered) l9 c9 k9
  have b9 := F9.binds (ps := ["row", "ends", "parts", "begin"]) fun _ _ _ _ _ _ us hl => match us, hl with | [_, _, _, _], _ => rfl
  have F10 := fun_mk (st := st_found_facts) l10 c10 k10
  have b10 := F10.binds (ps := ["grammar", "row"]) fun _ _ _ _ _ _ us hl => match us, hl with | [_, _], _ => rfl
  have F11 := fun_mk (st := st_facts) l11 c11 k11
  have b11 := F11.binds (ps := ["grammar", "row"]) fun _ _ _ _ _ _ us hl => match us, hl with | [_, _], _ => rfl
  have F12 := fun_mk (st := st_parts_of) l12 c12 k12
  have b12 := F12.binds (ps := ["grammar", "way"]) fun _ _ _ _ _ _ us hl => match us, hl with | [_, _], _ => rfl
  have F13 := fun_mk (st := st_ways_of) l13 c13 k13
  have b13 := F13.binds (ps := ["grammar", "row", "ends", "fact"]) fun _ _ _ _ _ _ us hl => match us, hl with | [_, _, _, _], _ => rfl
  have F14 := fun_mk (st := st_grove) l14 c14 k14
  have b14 := F14.binds (ps := ["grammar", "row"]) fun _ _ _ _ _ _ us hl => match us, hl with | [_, _], _ => rfl
  have F15 := fun_mk (st := st_beneath) l15 c15 k15
  have b15 := F15.binds (ps := ["grammar", "ways"]) fun _ _ _ _ _ _ us hl => match us, hl with | [_, _], _ => rfl
  have F16 := fun_mk (st := st_gone_down) l16 c16 k16
  have b16 := F16.binds (ps := ["grammar", "some"]) fun _ _ _ _ _ _ us hl => match us, hl with | [_, _], _ => rfl
  have F17 := fun_mk (st := st_way_count) l17 c17 k17
  have b17 := F17.binds (ps := ["grammar", "counts", "way"]) fun _ _ _ _ _ _ us hl => match us, hl with | [_, _, _], _ => rfl
  have F18 := fun_mk (st := st_counts_of) l18 c18 k18
  have b18 := F18.binds (ps := ["grammar", "some"]) fun _ _ _ _ _ _ us hl => match us, hl with | [_, _], _ => rfl
  have F19 := fun_mk (st := st_grove_count) l19 c19 k19
  have b19 := F19.binds (ps := ["grammar", "row"]) fun _ _ _ _ _ _ us hl => match us, hl with | [_, _], _ => rfl
  have F20 := fun_mk (st := st_way_numbered) l20 c20 k20
  have b20 := F20.binds (ps := ["grammar", "counts", "ways", "number"]) fun _ _ _ _ _ _ us hl => match us, hl with | [_, _, _, _], _ => rfl
  have F21 := fun_mk (st := st_tasks_of) l21 c21 k21
  have b21 := F21.binds (ps := ["grammar", "way", "numbers"]) fun _ _ _ _ _ _ us hl => match us, hl with | [_, _, _], _ => rfl
  have F22 := fun_mk (st := st_tree_numbered) l22 c22 k22
  have b22 := F22.binds (ps := ["grammar", "row", "number"]) fun _ _ _ _ _ _ us hl => match us, hl with | [_, _, _], _ => rfl
  have F23 := fun_mk (st := st_row_of) l23 c23 k23
  have b23 := F23.binds (ps := ["tree"]) fun _ _ _ _ _ _ us hl => match us, hl with | [_], _ => rfl
  have F24 := fun_mk (st := st_law_numbers) l24 c24 k24
  have b24 := F24.binds (ps := ["tree"]) fun _ _ _ _ _ _ us hl => match us, hl with | [_], _ => rfl
  have F25 := fun_mk (st := st_all_knots) l25 c25 k25
  have b25 := F25.binds (ps := ["tree"]) fun _ _ _ _ _ _ us hl => match us, hl with | [_], _ => rfl
  have F26 := fun_mk (st := st_is_made) l26 c26 k26
  have b26 := F26.binds (ps := ["grammar", "knot"]) fun _ _ _ _ _ _ us hl => match us, hl with | [_, _], _ => rfl
  have F27 := fun_mk (st := st_right_tree) l27 c27 k27
  have b27 := F27.binds (ps := ["grammar", "name", "tree"]) fun _ _ _ _ _ _ us hl => match us, hl with | [_, _, _], _ => rfl
  have F28 := fun_mk (st := st_is_reading) l28 c28 k28
  have b28 := F28.binds (ps := ["grammar", "row", "tree"]) fun _ _ _ _ _ _ us hl => match us, hl with | [_, _, _], _ => rfl
  have F29 := fun_mk (st := st_law_cell) l29 c29 k29
  have b29 := F29.binds (ps := ["script", "k"]) fun _ _ _ _ _ _ us hl => match us, hl with | [_, _], _ => rfl
  have F30 := fun_mk (st := st_law_stir) l30 c30 k30
  have b30 := F30.binds (ps := ["cell", "k"]) fun _ _ _ _ _ _ us hl => match us, hl with | [_, _], _ => rfl
  have F31 := fun_mk (st := st_law_drawn) l31 c31 k31
  have b31 := F31.binds (ps := ["cell", "sizes"]) fun _ _ _ _ _ _ us hl => match us, hl with | [_, _], _ => rfl
  have F32 := fun_mk (st := st_law_grammar) l32 c32 k32
  have b32 := F32.binds (ps := ["script"]) fun _ _ _ _ _ _ us hl => match us, hl with | [_], _ => rfl
  have F33 := fun_mk (st := st_law_is_name) l33 c33 k33
  have b33 := F33.binds (ps := ["part"]) fun _ _ _ _ _ _ us hl => match us, hl with | [_], _ => rfl
  have F34 := fun_mk (st := st_law_row) l34 c34 k34
  have b34 := F34.binds (ps := ["script", "rules", "most"]) fun _ _ _ _ _ _ us hl => match us, hl with | [_, _, _], _ => rfl
  have F35 := fun_mk (st := st_law_grown) l35 c35 k35
  have b35 := F35.binds (ps := ["rules", "row", "most"]) fun _ _ _ _ _ _ us hl => match us, hl with | [_, _, _], _ => rfl
  have F36 := fun_mk (st := st_law) l36 c36 k36
  refine ⟨PySem.W.fnOf "law" "law" (defArgs st_law) (defBody st_law) (defScope st_law) .none kV36 dc36 pm36 an36 cd36 ct36, fun s v => .of_eq rfl, fun base _ _ hS => ?_⟩
  have C_is_name := Cal.mk' (P := l.prog) (w := w) (base := base) (ok_is_name F1 ⟨_, PySem.W.mg_of X G gG⟩) (PySem.W.mg_of X G a1) k1 b1
  have C_names := Cal.mk' (P := l.prog) (w := w) (base := base) (ok_names F2 ) (PySem.W.mg_of X G a2) k2 b2
  have C_rules_of := Cal.mk' (P := l.prog) (w := w) (base := base) (ok_rules_of F3 B) (PySem.W.mg_of X G a3) k3 b3
  have C_grammar_of := Cal.mk' (P := l.prog) (w := w) (base := base) (ok_grammar_of F4 B C_names C_is_name) (PySem.W.mg_of X G a4) k4 b4
  have C_add_end := Cal.mk' (P := l.prog) (w := w) (base := base) (ok_add_end F5 ) (PySem.W.mg_of X G a5) k5 b5
  have C_ends_of := Cal.mk' (P := l.prog) (w := w) (base := base) (ok_ends_of F6 C_add_end) (PySem.W.mg_of X G a6) k6 b6
  have C_places_behind := Cal.mk' (P := l.prog) (w := w) (base := base) (ok_places_behind F7 B C_is_name) (PySem.W.mg_of X G a7) k7 b7
  have C_cuts_from := Cal.mk' (P := l.prog) (w := w) (base := base) (ok_cuts_from F8 C_places_behind) (PySem.W.mg_of X G a8) k8 b8
  have C_covered := Cal.mk' (P := l.prog) (w := w) (base := base) (ok_covered F9 C_places_behind) (PySem.W.mg_of X G a9) k9 b9
  have C_found_facts := Cal.mk' (P := l.prog) (w := w) (base := base) (ok_found_facts F10 B C_covered C_add_end) (PySem.W.mg_of X G a10) k10 b10
  have C_facts := Cal.mk' (P := l.prog) (w := w) (base := base) (ok_facts F11 B C_found_facts) (PySem.W.mg_of X G a11) k11 b11
  have C_parts_of := Cal.mk' (P := l.prog) (w := w) (base := base) (ok_parts_of F12 B C_is_name) (PySem.W.mg_of X G a12) k12 b12
  have C_ways_of := Cal.mk' (P := l.prog) (w := w) (base := base) (ok_ways_of F13 B C_rules_of C_cuts_from) (PySem.W.mg_of X G a13) k13 b13
  have C_grove := Cal.mk' (P := l.prog) (w := w) (base := base) (ok_grove F14 B C_facts C_ends_of C_ways_of C_parts_of) (PySem.W.mg_of X G a14) k14 b14
  have C_beneath := Cal.mk' (P := l.prog) (w := w) (base := base) (ok_beneath F15 C_parts_of) (PySem.W.mg_of X G a15) k15 b15
  have C_gone_down := Cal.mk' (P := l.prog) (w := w) (base := base) (ok_gone_down F16 B C_beneath) (PySem.W.mg_of X G a16) k16 b16
  have C_way_count := Cal.mk' (P := l.prog) (w := w) (base := base) (ok_way_count F17 C_parts_of) (PySem.W.mg_of X G a17) k17 b17
  have C_counts_of := Cal.mk' (P := l.prog) (w := w) (base := base) (ok_counts_of F18 B C_gone_down C_way_count) (PySem.W.mg_of X G a18) k18 b18
  have C_grove_count := Cal.mk' (P := l.prog) (w := w) (base := base) (ok_grove_count F19 B bigOk C_grove C_counts_of) (PySem.W.mg_of X G a19) k19 b19
  have C_way_numbered := Cal.mk' (P := l.prog) (w := w) (base := base) (ok_way_numbered F20 B hS ht C_way_count C_parts_of) (PySem.W.mg_of X G a20) k20 b20
  have C_tasks_of := Cal.mk' (P := l.prog) (w := w) (base := base) (ok_tasks_of F21 B C_parts_of C_is_name) (PySem.W.mg_of X G a21) k21 b21
  have C_tree_numbered := Cal.mk' (P := l.prog) (w := w) (base := base) (ok_tree_numbered F22 B bigOk szOk C_grove C_counts_of C_way_numbered C_tasks_of) (PySem.W.mg_of X G a22) k22 b22
  have C_row_of := Cal.mk' (P := l.prog) (w := w) (base := base) (ok_row_of F23 B) (PySem.W.mg_of X G a23) k23 b23
  have C__law_numbers := Cal.mk' (P := l.prog) (w := w) (base := base) (ok_law_numbers F24 B) (PySem.W.mg_of X G a24) k24 b24
  have C_all_knots := Cal.mk' (P := l.prog) (w := w) (base := base) (ok_all_knots F25 B) (PySem.W.mg_of X G a25) k25 b25
  have C_is_made := Cal.mk' (P := l.prog) (w := w) (base := base) (ok_is_made F26 B C_is_name) (PySem.W.mg_of X G a26) k26 b26
  have C_right_tree := Cal.mk' (P := l.prog) (w := w) (base := base) (ok_right_tree F27 B C_all_knots C_is_made) (PySem.W.mg_of X G a27) k27 b27
  have C_is_reading := Cal.mk' (P := l.prog) (w := w) (base := base) (ok_is_reading F28 C_right_tree C_row_of) (PySem.W.mg_of X G a28) k28 b28
  have C__law_cell := Cal.mk' (P := l.prog) (w := w) (base := base) (ok_law_cell F29 B) (PySem.W.mg_of X G a29) k29 b29
  have C__law_stir := Cal.mk' (P := l.prog) (w := w) (base := base) (ok_law_stir F30 ) (PySem.W.mg_of X G a30) k30 b30
  have C__law_drawn := Cal.mk' (P := l.prog) (w := w) (base := base) (ok_law_drawn F31 B C__law_stir) (PySem.W.mg_of X G a31) k31 b31
  have C__law_grammar := Cal.mk' (P := l.prog) (w := w) (base := base) (ok_law_grammar F32 B C__law_cell C__law_drawn) (PySem.W.mg_of X G a32) k32 b32
  have C__law_is_name := Cal.mk' (P := l.prog) (w := w) (base := base) (ok_law_is_name F33 ) (PySem.W.mg_of X G a33) k33 b33
  have C__law_row := Cal.mk' (P := l.prog) (w := w) (base := base) (ok_law_row F34 B C__law_cell C__law_drawn C__law_is_name) (PySem.W.mg_of X G a34) k34 b34
  have C__law_grown := Cal.mk' (P := l.prog) (w := w) (base := base) (ok_law_grown F35 B C__law_is_name) (PySem.W.mg_of X G a35) k35 b35
  exact ok_law F36 B C__law_grammar C__law_row C_grammar_of C_grove_count C_tree_numbered C_is_reading C__law_numbers C__law_grown
end Rg
open PySem PySem.W PyProof.Rows
set_option maxRecDepth 100000 in
set_option maxHeartbeats 0 in
theorem PySem.Challenge.cw_readgrove_k29_whole_all_readings_unlike_holds : PySem.Challenge.rw_readgrove_k29_whole_all_readings_unlike.Holds := by
  w_on; o_law; k_head; (case hw => w_witness2)
  k_fill
  refine Rg.walk_seer (l := PySem.Challenge.rw_readgrove_k29_whole_all_readings_unlike) (n := 63) (k := 38) (x := "script") (sp := fun K => Rg.sp_law K) rfl (by decide) rfl ⟨rfl, by decide, by decide⟩ ?hq (fun w h Y => PySem.W.kIn_of Y) ?F (fun K H a ns hl hS => ⟨a, ns, rfl, hS, Nat.le_trans hl (by decide), fun _ => rfl⟩)
  case hq => decide +kernel
  case F =>
    intro w mg fa h KX G hmg
    refine' Rg.all_mk KX G hmg rfl ?a1 ?l1 ?c1 ?k1 ?a2 ?l2 ?c2 ?k2 ?a3 ?l3 ?c3 ?k3 ?a4 ?l4 ?c4 ?k4 ?a5 ?l5 ?c5 ?k5 ?a6 ?l6 ?c6 ?k6 ?a7 ?l7 ?c7 ?k7 ?a8 ?l8 ?c8 ?k8 ?a9 ?l9 ?c9 ?k9 ?a10 ?l10 ?c10 ?k10 ?a11 ?l11 ?c11 ?k11 ?a12 ?l12 ?c12 ?k12 ?a13 ?l13 ?c13 ?k13 ?a14 ?l14 ?c14 ?k14 ?a15 ?l15 ?c15 ?k15 ?a16 ?l16 ?c16 ?k16 ?a17 ?l17 ?c17 ?k17 ?a18 ?l18 ?c18 ?k18 ?a19 ?l19 ?c19 ?k19 ?a20 ?l20 ?c20 ?k20 ?a21 ?l21 ?c21 ?k21 ?a22 ?l22 ?c22 ?k22 ?a23 ?l23 ?c23 ?k23 ?a24 ?l24 ?c24 ?k24 ?a25 ?l25 ?c25 ?k25 ?a26 ?l26 ?c26 ?k26 ?a27 ?l27 ?c27 ?k27 ?a28 ?l28 ?c28 ?k28 ?a29 ?l29 ?c29 ?k29 ?a30 ?l30 ?c30 ?k30 ?a31 ?l31 ?c31 ?k31 ?a32 ?l32 ?c32 ?k32 ?a33 ?l33 ?c33 ?k33 ?a34 ?l34 ?c34 ?k34 ?a35 ?l35 ?c35 ?k35 ?a36 ?l36 ?c36 ?k36 ?gG ?z1 ?z2 ?z3 ?z4 ?z5 ?z6 ?z7 ?z8 ?z9 ?z10 ?z11 ?z12 ?z13 ?z14 ?z15 ?z16 ?z17
    (case a1 => k_is)
    (case l1 => k_is)
    (case c1 => k_is)
    (case k1 => k_is)
    (case a2 => k_is)
    (case l2 => k_is)
    (case c2 => k_is)
    (case k2 => k_is)
    (case a3 => k_is)
    (case l3 => k_is)
    (case c3 => k_is)
    (case k3 => k_is)
    (case a4 => k_is)
    (case l4 => k_is)
    (case c4 => k_is)
    (case k4 => k_is)
    (case a5 => k_is)
    (case l5 => k_is)
    (case c5 => k_is)
    (case k5 => k_is)
    (case a6 => k_is)
    (case l6 => k_is)
    (case c6 => k_is)
    (case k6 => k_is)
    (case a7 => k_is)
    (case l7 => k_is)
    (case c7 => k_is)
    (case k7 => k_is)
    (case a8 => k_is)
    (case l8 => k_is)
    (case c8 => k_is)
    (case k8 => k_is)
    (case a9 => k_is)
    (case l9 => k_is)
    (case c9 => k_is)
    (case k9 => k_is)
    (case a10 => k_is)
    (case l10 => k_is)
    (case c10 => k_is)
    (case k10 => k_is)
    (case a11 => k_is)
    (case l11 => k_is)
    (case c11 => k_is)
    (case k11 => k_is)
    (case a12 => k_is)
    (case l12 => k_is)
    (case c12 => k_is)
    (case k12 => k_is)
    (case a13 => k_is)
    (case l13 => k_is)
    (case c13 => k_is)
    (case k13 => k_is)
    (case a14 => k_is)
    (case l14 => k_is)
    (case c14 => k_is)
    (case k14 => k_is)
    (case a15 => k_is)
    (case l15 => k_is)
    (case c15 => k_is)
    (case k15 => k_is)
    (case a16 => k_is)
    (case l16 => k_is)
    (case c16 => k_is)
    (case k16 => k_is)
    (case a17 => k_is)
    (case l17 => k_is)
    (case c17 => k_is)
    (case k17 => k_is)
    (case a18 => k_is)
    (case l18 => k_is)
    (case c18 => k_is)
    (case k18 => k_is)
    (case a19 => k_is)
    (case l19 => k_is)
    (case c19 => k_is)
    (case k19 => k_is)
    (case a20 => k_is)
    (case l20 => k_is)
    (case c20 => k_is)
    (case k20 => k_is)
    (case a21 => k_is)
    (case l21 => k_is)
    (case c21 => k_is)
    (case k21 => k_is)
    (case a22 => k_is)
    (case l22 => k_is)
    (case c22 => k_is)
    (case k22 => k_is)
    (case a23 => k_is)
    (case l23 => k_is)
    (case c23 => k_is)
    (case k23 => k_is)
    (case a24 => k_is)
    (case l24 => k_is)
    (case c24 => k_is)
    (case k24 => k_is)
    (case a25 => k_is)
    (case l25 => k_is)
    (case c25 => k_is)
    (case k25 => k_is)
    (case a26 => k_is)
    (case l26 => k_is)
    (case c26 => k_is)
    (case k26 => k_is)
    (case a27 => k_is)
    (case l27 => k_is)
    (case c27 => k_is)
    (case k27 => k_is)
    (case a28 => k_is)
    (case l28 => k_is)
    (case c28 => k_is)
    (case k28 => k_is)
    (case a29 => k_is)
    (case l29 => k_is)
    (case c29 => k_is)
    (case k29 => k_is)
    (case a30 => k_is)
    (case l30 => k_is)
    (case c30 => k_is)
    (case k30 => k_is)
    (case a31 => k_is)
    (case l31 => k_is)
    (case c31 => k_is)
    (case k31 => k_is)
    (case a32 => k_is)
    (case l32 => k_is)
    (case c32 => k_is)
    (case k32 => k_is)
    (case a33 => k_is)
    (case l33 => k_is)
    (case c33 => k_is)
    (case k33 => k_is)
    (case a34 => k_is)
    (case l34 => k_is)
    (case c34 => k_is)
    (case k34 => k_is)
    (case a35 => k_is)
    (case l35 => k_is)
    (case c35 => k_is)
    (case k35 => k_is)
    (case a36 => k_is)
    (case l36 => k_is)
    (case c36 => k_is)
    (case k36 => k_is)
    (case gG => k_is)
    (case z1 => k_is)
    (case z2 => k_is)
    (case z3 => k_is)
    (case z4 => k_is)
    (case z5 => k_is)
    (case z6 => k_is)
    (case z7 => k_is)
    (case z8 => k_is)
    (case z9 => k_is)
    (case z10 => k_is)
    (case z11 => k_is)
    (case z12 => k_is)
    (case z13 => k_is)
    (case z14 => k_is)
    (case z15 => k_is)
    (case z16 => k_is)
    (case z17 => k_is)
