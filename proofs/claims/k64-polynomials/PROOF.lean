import PyProof.Rows.All
import Wide.All
import OpenK.AllK
import Wide.FinOn
import HandS.ForMost
import HandS.ForExc
import HandS.Zip
import HandS.DictTup
import HandS.Conv
import HandS.TupAny
import HandS.TupMul
import HandS.TupLen
import HandS.Wide
import HandS.Lambda
import HandS.Flow
import HandS.Small
import KE.SortData
import KE.DataMinKey
import KE.KDictKeyed
import KE.KDictPairs
import KE.KDictDisplayH
import KE.KTupSum
import KE.GoesMore
import KE.DataCmp
import HandS.EndOwn
import HandS.IsInst
import PySem.Challenge.RW_thrownpots_k64_polynomials_of_weights
set_option Elab.async false
set_option linter.all false
set_option maxRecDepth 100000
set_option maxHeartbeats 8000000
/-! Rules over the hand layer that this claim wants besides. -/
namespace K64
open PySem PySem.Spec PyProof.Rows L2

/-! ### for k, v in d.items() where the keys are tuples (the dict is locked) -/
def ItiT (d : Addr) (o : Obj) (kvs : List (List Key × V)) : It :=
  ⟨fun i H => H d = some (.frz o (.dT kvs)) ∧ i < kvs.length,
   fun i H x H' => ∃ (T q : Addr) (k : List Key) (v : V), kvs[i]? = some (k, v) ∧ x = .ref T ∧ H T = none ∧ H q = some (.tup (k.map kV)) ∧ H' = upd H T (.tup [.ref q, v]),
   fun i H => H d = some (.frz o (.dT kvs)) ∧ kvs.length ≤ i⟩

theorem frzT2 {X : Cx} {pins : List (Addr × Obj)} {σ : L2.St} {H : Hp} {s : Shared} {d : Addr} {o : Obj} {kvs : List (List Key × V)} (I : Inv X pins σ H s) (h : H d = some (.frz o (.dT kvs))) :
    (d == sysModules) = false ∧ ∃ (es : Array DictEntry) (ep : Nat), o.data = .dict es ep ∧ DT.Raw s.heap d es ep ∧ es.size = kvs.length ∧
      ∀ (i : Nat) (k : List Key) (v : V), kvs[i]? = some (k, v) → ∃ (en : DictEntry) (q : Addr), es[i]? = some en ∧ en.key = .ref q ∧ H q = some (.tup (k.map kV)) ∧ RelV v en.val := by
  obtain ⟨hd, z, hs, xs, pr, o', es, ep, ho, hx, hdt, he, _⟩ := I.hok d _ h
  rw [hd] at ho
  cases ho
  refine ⟨hs, es, ep, hdt, ⟨_, hd, hx, hdt⟩, ?_, fun i k v e => ?_⟩
  · have l1 : es.size = xs.length := size_of_entries he
    have l2 : kvs.length = xs.length := Paired.length pr
    omega
  · obtain ⟨b, hb, e1, e2, e3⟩ := paired_get pr e
    have q := entry_at he i
    rw [hb] at q
    exact ⟨_, b.2.1, q, rfl, e2, e3⟩

theorem turn_itemsT {P : Program} {w : World} {K : PySem.W.Frag} {d : Addr} {o : Obj} {es : Array DictEntry} {ep : Nat} {kvs : List (List Key × V)} {elts : List Expr} {kk : Nat} {tpos : Pos} (it : Addr) (hod : o.data = .dict es ep) :
    Turn P w K (.Tuple elts kk tpos) (ItiT d o kvs) [it] it (fun i h => ∃ ok ov, IsItemIter h it d i kvs.length ep ok ov) where
  mem := by simp
  obj := fun i h st b hb => by
    have e : b = it := by simpa using hb
    subst e
    obtain ⟨ok, ov, e⟩ := st
    exact ⟨_, e, fun v z => nomatch z⟩
  keep := fun i h h' st k => let ⟨ok, ov, e⟩ := st; ⟨ok, ov, k it (by simp) _ e⟩
  item := by
    intro X hP hw hK hc i pins s σ H E I hf st hg
    subst hP hw hK
    obtain ⟨hd, hi⟩ := hg
    obtain ⟨hs, es', ep', hdt, hm, hsz, hent⟩ := frzT2 I hd
    obtain ⟨rfl, rfl⟩ := dict_ep hod hdt
    obtain ⟨⟨k, v⟩, hkv⟩ : ∃ p, kvs[i]? = some p := ⟨kvs[i], List.getElem?_eq_getElem hi⟩
    obtain ⟨en, q, hen, hkey, hq, hv⟩ := hent i k v hkv
    obtain ⟨ok, ov, he⟩ := st
    rw [← hsz] at he
    have hlt : it < s.heap.objs.size := Heap.lt_size he
    have hi' : i < es'.size := by omega
    have een : es'[i] = en := by
      have z := Array.getElem?_eq_getElem hi'
      rw [hen] at z
      exact (Option.some.inj z).symm
    refine DT.nextI he hm hi' fun h' ho hT hz hk => ?_
    rw [een] at ho hT
    refine ⟨_, rfl, wpAny_letOwnedTupleGo_items (s := { s with heap := h' }) ho fun h'' he' sb => ?_⟩
    have hT2 : h''.get? s.heap.objs.size = some { cls := .type "tuple", data := .seq #[en.key, en.val] } := (sb.2 _ (Nat.ne_of_gt hlt)).trans hT
    rw [hkey] at hT2
    have new : ObjOk X.prog X.w (upd H s.heap.objs.size (.tup [.ref q, v])) h'' s.heap.objs.size (.tup [.ref q, v]) :=
      ⟨by show 2 ≤ sizeLine; decide, [.ref q, en.val], .cons rfl (.cons hv .nil), ⟨_, hT2, rfl, _, rfl⟩⟩
    have I1 : Inv X pins σ (upd H s.heap.objs.size (.tup [.ref q, v])) { s with heap := h'' } :=
      I.turnedNew (t' := s.toks) (ch := [it]) (fun b ob hb e => (sb.2 b (by simpa using hb)).trans (hk b ob (by simpa using hb) e)) hf (Nat.le_refl _) new
    refine ⟨.ref s.heap.objs.size, _, I1, rfl, ⟨_, q, k, v, hkv, rfl, I.hok.fresh (Nat.le_refl _), hq, rfl⟩, ⟨en.key, en.val, ?_⟩, fun b hb => ?_⟩
    · rw [← hsz]; exact he'
    · have e : b = it := by simpa using hb
      rw [e, upd_ne (Nat.ne_of_lt hlt)]
      exact (hf it (by simp)).1
  done := by
    intro X hP hw hK hc i pins s σ H E I hf st hg
    subst hP hw hK
    obtain ⟨hd, hi⟩ := hg
    obtain ⟨f0, f1, f2, f3, f4, f5⟩ := hf it (by simp)
    obtain ⟨hs, es', ep', hdt, hm, hsz, hent⟩ := frzT2 I hd
    obtain ⟨rfl, rfl⟩ := dict_ep hod hdt
    obtain ⟨ok, ov, he⟩ := st
    rw [← hsz] at he
    exact DT.endI (I.ok.hd hc) he hm (by omega) fun h' eb => ⟨rfl, I.turned (t' := s.toks) (fun b ob hb e => eb b ob hb e) f0 f1 f3 f4 f5⟩
  self := fun A i s Q E st h => let ⟨_, _, e⟩ := st; PySem.W.kcp_self e h

def iItemsT (td : TE) : TI := fun σ H R => td σ H fun x H1 => ∃ d o kvs, x = .ref d ∧ H1 d = some (.frz o (.dT kvs)) ∧ R (ItiT d o kvs) H1
theorem pi_itemsT {X : Cx} {e : Expr} {td : TE} {apos cpos : Pos} {elts : List Expr} {kk : Nat} {tpos : Pos} (he : PE X e td) (hbase : attributeBase e "items" X.env (eval e X.env) = eval e X.env := by rfl) (hline : (apos.endLine == cpos.line) = true := by rfl) :
    PI X (.Tuple elts kk tpos) (.Call (.Attribute e "items" apos) [] [] cpos) (iItemsT td) := by
  refine ⟨fun pins s σ H R I h => ?_⟩
  refine wpAny_Call_method (T := "dict") (id := "dict.items") hbase rfl hline F.plainAttrs_dict F.slot_dict_items F.type_dict_items (thn (he.run pins s σ H _ I h) fun u s1 ⟨x, H1, I1, rx, d, o, kvs, ex, hd, q⟩ => ?_)
  subst ex
  obtain rfl : u = Value.ref d := rx
  obtain ⟨hs, es, ep, hdt, hm, hsz, hent⟩ := frzT2 I1 hd
  obtain ⟨od, hod, hxd, hdd⟩ := id hm
  refine ⟨hm.typeIs, fun a ea => ?_, ?_⟩
  · cases ea
    exact ⟨od, hod, hxd.2.1⟩
  have I2 : Inv X pins σ H1 { s1 with heap := s1.heap.push { cls := .type "dict_items", data := .fields #[.ref d] } } := I1.kept (t' := s1.toks) fun b ob q => Heap.get?_push_of_some _ q
  have fin : wpAny (model X.prog X.w) X.A (pyIter (.ref s1.heap.objs.size)) (PIE X pins σ (.Tuple elts kk tpos) R) X.xe { s1 with heap := s1.heap.push { cls := .type "dict_items", data := .fields #[.ref d] } } := by
    refine DT.iterI (d := d) ⟨_, Heap.get?_push_size _ rfl, rfl, rfl⟩ (hm.push _) (pi_one (tk := s1.toks) I2 _ (turn_itemsT _ hdt) ⟨.none, .none, ?_⟩ q)
    rw [← hsz]
    exact Heap.get?_push_size _ rfl
  show wpAny _ _ (callWith cpos (.builtin "dict.items") [.ref d] [] []) _ X.xe s1
  exact method_meetsIn F.slot_dict_items F.entry_dict_items rfl (PySem.evalArgs_none ⟨rfl, hm.typeIs, F.args_dict_items_1 _, _, DT.meetsItems (es := es) (ep := ep) hs, ⟨hm, fin⟩⟩)

/-! ### plain tuples: their object is told (its own dict is none) -/
def tTupP (t : TA) : TE := fun σ H Q => t σ H fun xs H1 => xs.length ≤ sizeLine ∧ ∀ p o, H1 p = none → o.dict = none → Q (.ref p) (upd H1 p (.frz o (.tup xs)))
theorem pe_tupP {X : Cx} {es : List Expr} {t : TA} {pos : Pos} {x1} (h : PA X es t) : PE X (.Tuple es x1 pos) (tTupP t) := by
  refine ⟨fun pins s σ H Q I hq => ?_⟩
  refine wpAny_Tuple_spliced (thn (h.run pos pins s σ H _ I hq) fun us s1 ⟨xs, H1, I1, r, z, q⟩ => ⟨by rw [← r.length]; exact z, ?_⟩)
  have hf : H1 s1.heap.objs.size = none := I1.hok.fresh (Nat.le_refl _)
  refine ⟨.ref s1.heap.objs.size, upd H1 s1.heap.objs.size (.frz { cls := .type "tuple", data := .seq us.toArray } (.tup xs)), I1.laid (t' := s1.toks) (fun b u e => Heap.get?_push_of_some _ e) (Nat.le_refl _) ?_, rfl, q _ _ hf rfl⟩
  exact ⟨Heap.get?_push_size _ rfl, z, us, r, ⟨_, Heap.get?_push_size _ rfl, rfl, _, rfl⟩⟩
/-- tuple(xs), xs a list -/
theorem call_tupleP {X : Cx} : CallR X (.type "tuple") (fun xs H Q => ∃ p ys, xs = [.ref p] ∧ SqL X.K H p ys ∧ ∀ l o, H l = none → o.dict = none → Q (.ref l) (upd H l (.frz o (.tup ys)))) := by
  intro pins s σ H xs us Q I r h
  obtain ⟨p, ys, rfl, hq, q⟩ := h
  obtain ⟨u, rfl, rx⟩ := vals1 r
  cases rx
  obtain ⟨its, r', pl, hz⟩ := I.list hq
  have hlen := r'.length
  refine call_tuple_list pl.isList (fun h' kp => ?_) (by simp only [List.size_toArray] <;> omega)
  have I1 : Inv X pins σ H { s with heap := h' } := I.kept (t' := s.toks) kp
  have I2 : Inv X pins σ (upd H h'.objs.size (.frz { cls := .type "tuple", data := .seq its.toArray } (.tup ys))) { s with heap := h'.push { cls := .type "tuple", data := .seq its.toArray } } :=
    I1.laid (t' := s.toks) (fun b o e => Heap.get?_push_of_some _ e) (Nat.le_refl _) (show ObjOk X.prog X.w _ _ _ (.frz _ (.tup ys)) from ⟨Heap.get?_push_size _ rfl, hz, its, r', IsTup.new _ _⟩)
  exact ⟨.ref h'.objs.size, _, I2, rfl, q _ _ (I1.hok.fresh (Nat.le_refl _)) rfl⟩

/-! ### dict(t), t a plain tuple of pairs whose keys are tuples -/
def mergeT (kvs more : List (List Key × V)) : List (List Key × V) := more.foldl (fun acc kv => putK acc kv.1 kv.2) kvs
/-- at t stands the pair of the key tuple e.1 and the value -/
def PairT (H : Hp) (t : Addr) (e : List Key × V) : Prop := ∃ q, H t = some (.tup [.ref q, e.2]) ∧ H q = some (.tup (e.1.map kV))
theorem KT.mergeAll {H : Hp} : ∀ {more : List (List Key × V)} {ps : List (List Key × Addr × Value)} {kvs : List (List Key × V)} {xs : List (List Key × Addr × Value)}, KT H more ps → KT H kvs xs → KT H (mergeT kvs more) (storedAllH xs ps)
  | [], _, _, _, .nil, r => r
  | (k, y) :: more, _, kvs, xs, .cons h t, r => by
    rename_i b ps
    obtain ⟨e1, e2, e3⟩ := h
    have e1' : k = b.1 := e1
    have e2' : H b.2.1 = some (.tup (k.map kV)) := e2
    have e3' : RelV y b.2.2 := e3
    show KT H (mergeT (putK kvs k y) more) (storedAllH (storedH xs b.1 b.2.1 b.2.2) ps)
    refine KT.mergeAll t ?_
    have z := r.put k e2' e3'
    rw [← e1']
    exact z
theorem length_mergeT : ∀ (more kvs : List (List Key × V)), (mergeT kvs more).length ≤ kvs.length + more.length
  | [], kvs => by show kvs.length ≤ kvs.length + 0; omega
  | kv :: more, kvs => by
    have h1 := length_mergeT more (putK kvs kv.1 kv.2)
    have h2 := length_putK kvs kv.1 kv.2
    show (mergeT (putK kvs kv.1 kv.2) more).length ≤ kvs.length + (more.length + 1)
    omega
def rDictT : List V → Hp → VK → Prop := fun vs H Q => ∃ (a : Addr) (o : Obj) (ts : List Addr) (es : List (List Key × V)), vs = [.ref a] ∧ H a = some (.frz o (.tup (ts.map V.ref))) ∧ o.dict = none ∧
  Paired (PairT H) ts es ∧ ∀ p, H p = none → Q (.ref p) (upd H p (.dT (mergeT [] es)))
theorem dictT_ps {X : Cx} {pins : List (Addr × Obj)} {σ : L2.St} {H : Hp} {s : Shared} (I : Inv X pins σ H s) : ∀ {ts : List Addr} {es : List (List Key × V)}, Paired (PairT H) ts es →
    ∃ ps : List (List Key × Addr × Value), KT H es ps ∧ ps.length = ts.length ∧ ∀ (j : Nat) (k : List Key) (b : Addr) (v : Value), ps[j]? = some (k, b, v) → ∃ t, ts[j]? = some t ∧ PairAt s.heap t (.ref b) v ∧ H b = some (.tup (k.map kV))
  | [], _, .nil => ⟨[], .nil, rfl, fun j k b v e => by simp at e⟩
  | t :: ts, _, .cons h r => by
    rename_i e es
    obtain ⟨ps, h1, h2, h3⟩ := dictT_ps I r
    obtain ⟨q, ht, hq⟩ := h
    obtain ⟨its, rv, pt, _⟩ := I.tuple (SqT.of ht)
    obtain ⟨u, v, rfl, ru, rv'⟩ := Vals.two rv
    cases ru
    refine ⟨(e.1, q, v) :: ps, .cons ⟨rfl, hq, rv'⟩ h1, by simp [h2], fun j k b v' ej => ?_⟩
    cases j with
    | zero =>
      simp at ej
      obtain ⟨rfl, rfl, rfl⟩ := ej
      obtain ⟨ob, ho, hc, n, hd⟩ := pt
      exact ⟨t, rfl, .inl ⟨ob, ho, hc, n, hd⟩, hq⟩
    | succ j =>
      obtain ⟨t', e1, e2⟩ := h3 j k b v' (by simpa using ej)
      exact ⟨t', by simpa using e1, e2⟩
theorem cr_dictT {X : Cx} (hc : X.calm = true) (hu : X.A.units + 3 < cLine) : CallR X (.type "dict") rDictT := by
  intro pins s σ H vs us Q I r h
  obtain ⟨a, o, ts, es, rfl, ha, hod, hp, q⟩ := h
  rw [Vals.ref1 r]
  obtain ⟨psH, hKT, hlen, hps⟩ := dictT_ps I hp
  obtain ⟨hoa, z, its, rv, pt⟩ := I.hok a _ ha
  obtain ⟨o', ho', hcls, n, hdat⟩ := id pt
  rw [hoa] at ho'
  cases ho'
  have hits : its = ts.map Value.ref := by
    have aux : ∀ {ts : List Addr} {us : List Value}, Vals (ts.map V.ref) us → us = ts.map Value.ref := by
      intro ts
      induction ts with
      | nil => intro us h; cases h; rfl
      | cons t ts ih => intro us h; cases h with | cons r t' => cases r; rw [ih t']; rfl
    exact aux rv
  subst hits
  have Pa := PairArg.tuple (prog := X.prog) (w := X.w) a (ts.map Value.ref).toArray (fun j => ts.getD j 0) (psH.map fun p => (Value.ref p.2.1, p.2.2))
  have hn : (psH.map fun p => (Value.ref p.2.1, p.2.2)).length = psH.length := by simp
  have hz : psH.length ≤ sizeLine := by rw [hlen]; simpa using z
  refine call_dict_pairsH (knd := tupleKind (mixKind X.prog X.w)) (ps := psH) Pa (I.ok.hd hc) (by show X.A.in1.in1.units < cLine; simp only [Around.in1]; omega) ⟨⟨o, n, hoa, hcls, hod, hdat⟩, ?_, ?_⟩ ⟨hn.symm, ?_⟩ ?_ (by rw [hn]; exact hz) fun h' tk hd' hk => ?_
  · simp [hlen]
  · intro j k v e
    rw [List.getElem?_map] at e
    obtain ⟨⟨k0, b, v0⟩, e1, e2⟩ := Option.map_eq_some_iff.mp e
    cases e2
    obtain ⟨t, et, hpa, _⟩ := hps j k0 b v0 e1
    refine ⟨by simp [et], ?_⟩
    have eg : ts.getD j 0 = t := by simp [List.getD, et]
    show PairAt s.heap (ts.getD j 0) _ _
    rw [eg]
    exact hpa
  · intro i key v e
    have e : (psH.map fun p => (Value.ref p.2.1, p.2.2))[i]? = some (key, v) := e
    rw [List.getElem?_map] at e
    obtain ⟨⟨k0, b, v0⟩, e1, e2⟩ := Option.map_eq_some_iff.mp e
    cases e2
    exact ⟨k0, b, e1, rfl⟩
  · intro h' hk x hx
    obtain ⟨j, ej⟩ := List.getElem?_of_mem hx
    obtain ⟨t, et, hpa, hb⟩ := hps j x.1 x.2.1 x.2.2 ej
    have key := key_of (P := X.prog) (w := X.w) I.hok hb
    obtain ⟨oo, n', vs', g1, g2, g3, g4⟩ := id key
    refine ⟨oo, n', vs', hk _ _ ?_ (by simp) g1, g2, g3, g4⟩
    intro e
    rw [e] at hb
    rw [I.hok.fresh (Nat.le_refl _)] at hb
    cases hb
  · have hd := hd'
    obtain ⟨oD, eD, epD, g1, g2, g3, g4, g5, g6⟩ := hd
    have hlt : s.heap.objs.size < h'.objs.size := Heap.lt_size g1
    have new : ObjOk X.prog X.w (upd H s.heap.objs.size (.dT (mergeT [] es))) h' s.heap.objs.size (.dT (mergeT [] es)) := by
      refine ⟨?_, ?_, storedAllH [] psH, ?_, oD, eD, epD, g1, g2, g3, g4, g6⟩
      · have l1 := length_mergeT es []
        have l2 : es.length = psH.length := Paired.length hKT
        simp at l1
        omega
      · have := I.big
        exact beq_eq_false_iff_ne.mpr (Nat.ne_of_gt this)
      · have KT1 : KT H (mergeT [] es) (storedAllH [] psH) := KT.mergeAll hKT .nil
        exact KT1.keeps fun b ys e => by rw [upd_ne (ne_of_none e I.fresh)]; exact e
    have I1 : Inv X pins σ (upd H s.heap.objs.size (.dT (mergeT [] es))) { s with heap := h', toks := tk } := I.laid (fun b ob e => hk b ob (by simp) e) (Nat.le_refl _) new
    exact ⟨.ref s.heap.objs.size, _, I1, rfl, q _ I.fresh⟩
end K64
namespace K64
open PySem PySem.Spec PyProof.Rows L2

/-! ### {t: v}, t a tuple of keys -/
theorem dict_pairsH {prog : Program} {w : World} {K : Type} [DecidableEq K] {knd : HeapKind prog w K} {A : Around} {E : Value → Shared → Prop} {s : Shared} {env : Env} {keys : List (Option Expr)} {values : List Expr} {pos : Pos} {pairs : List (Sem Value × Sem Value)} {Q : Value → Shared → Prop} (hu : knd.room A)
    (hshape : (evalEachOpt keys env).zip ((evalEach values env).map fun v => do let x ← v; standAt pos; pure x) = pairs.map fun p => (some p.1, p.2)) (h0 : pairs ≠ []) (hlen : pairs.length ≤ 15)
    (h : wpAny (model prog w) A (evalPairs pairs) (fun vs s₁ => ∃ ps, CarriesH knd s₁.heap vs ps ∧ s₁.heap.DictOfH knd s.heap.objs.size [] ∧
      ∀ h' tk, h'.DictOfH knd s.heap.objs.size (storedAllH [] ps) → Heap.SameBut s.heap.objs.size s₁.heap h' → Q (.ref s.heap.objs.size) { s₁ with heap := h', toks := tk }) E
      { s with heap := s.heap.push { cls := .type "dict", data := .dict #[] } }) :
    wpAny (model prog w) A (eval (.Dict keys values pos) env) Q E s := by
  rw [arm_eval_Dict, hshape, dictDisplay_pairs pairs h0 (by omega)]
  exact wpAny_bind (wpAny_standAt (wpAny_bind (wpAny_subDictH (knd := knd) (Q := fun d s' => wpAny (model prog w) A (pure (Value.ref d)) Q E s') hu hlen
    (wpAny_mono h (fun vs s₁ h₁ => by obtain ⟨ps, hc, hm, hq⟩ := h₁; exact ⟨ps, hc, hm, fun h' tk a b => wpAny_pure (hq h' tk a b)⟩) fun _ _ e => e))))
def qDispT (p : Addr) (Q : VK) : List (V × V) → Hp → Prop
  | [(x, y)], H2 => H2 p = some (.dT []) ∧ ∃ (b : Addr) (k : List Key), x = .ref b ∧ H2 b = some (.tup (k.map kV)) ∧ Q (.ref p) (upd H2 p (.dT [(k, y)]))
  | _, _ => False
def tDispT (tk tv : TE) : TE := fun σ H Q => ∀ p, H p = none → tk σ (upd H p (.dT [])) fun x H1 => tv σ H1 fun y H2 => qDispT p Q [(x, y)] H2
theorem pe_dispT {X : Cx} {pos : Pos} {k v : Expr} {tk tv : TE} (hu : X.A.units + 1 < cLine) (hk : PE X k tk) (hv : PE X v tv) : PE X (.Dict [some k] [v] pos) (tDispT tk tv) := by
  refine ⟨fun pins s σ H Q I h => ?_⟩
  have hP : PPs X pos [some k] [v] [(tk, tv)] := pps_cons hk hv pps_nil
  have hf := I.hok.fresh (Nat.le_refl s.heap.objs.size)
  have hbig := I.big
  have I1 : Inv X pins σ (upd H s.heap.objs.size (.dT [])) { s with heap := s.heap.push { cls := .type "dict", data := .dict #[] } } :=
    I.laid (t' := s.toks) (fun b o e => Heap.get?_push_of_some _ e) (Nat.le_refl _) (dt_empty _ I.big)
  have h2 := h s.heap.objs.size hf
  refine dict_pairsH (knd := tupleKind (mixKind X.prog X.w)) (pairs := pairTrees [some k] [v] X.env pos) (by show X.A.units < cLine; omega) (by rfl) (by simp [pairTrees]) (by simp [pairTrees]) ?_
  refine thn (hP.run pins _ σ _ (qDispT s.heap.objs.size Q) I1 h2) ?_
  rintro vs s1 ⟨ps, H2, I2, rel, q⟩
  match ps, q with
  | [(x, y)], q =>
    obtain ⟨hp, b, kk, rfl, hb, q⟩ := q
    cases rel with
    | cons r t =>
      cases t
      rename_i vv
      obtain ⟨u, w'⟩ := vv
      obtain ⟨r1, r2⟩ := r
      have r1' : u = Value.ref b := r1
      subst r1'
      have r2' : RelV y w' := r2
      obtain ⟨z, hd, xs, hkt, dd⟩ := dt_of I2.hok hp
      have hxs : xs = [] := by cases hkt; rfl
      subst hxs
      refine ⟨[(kk, b, w')], ⟨rfl, rfl, key_of I2.hok hb, True.intro⟩, dd, fun h' tk hm hs => ?_⟩
      obtain ⟨oD, eD, epD, g1, g2, g3, g4, g5, g6⟩ := hm
      have hne : (s.heap.objs.size == sysModules) = false := beq_eq_false_iff_ne.mpr (Nat.ne_of_gt hbig)
      have nb : b ≠ s.heap.objs.size := ne_of hb hp (by intro z; cases z)
      have new : ObjOk X.prog X.w (upd H2 s.heap.objs.size (.dT [(kk, y)])) h' s.heap.objs.size (.dT [(kk, y)]) :=
        ⟨by show 1 ≤ sizeLine; decide, hne, [(kk, b, w')], .cons ⟨rfl, by rw [upd_ne nb]; exact hb, r2'⟩ .nil, oD, eD, epD, g1, g2, g3, g4, g6⟩
      have I3 : Inv X pins σ (upd H2 s.heap.objs.size (.dT [(kk, y)])) { s1 with heap := h', toks := tk } :=
        d_write I2 (by rw [hp]; trivial) hs ⟨_, g1⟩ new
      exact ⟨.ref s.heap.objs.size, _, I3, rfl, q⟩

/-! ### sorted of tuples (and other data), at any length -/
def sortV (xs : List V) (ds : List PyData) : List V := ((xs.zip ds).mergeSort (W.dataLe false fun b => b.2)).map (·.1)
def rSortD (K : PySem.W.Frag) (u : Nat) : List V → Hp → VK → Prop := fun vs H Q => ∃ (a : Addr) (xs : List V) (ds : List PyData), vs = [.ref a] ∧ SqL K H a xs ∧ DpAll K H xs ds ∧ W.AllAlike ds ∧ W.Sortable ds ∧
  (∀ d ∈ ds, u + 2 + d.depth < cLine) ∧ ∀ p, H p = none → Q (.ref p) (upd H p (.lst (sortV xs ds)))
theorem DpAll.length {K : PySem.W.Frag} {H : Hp} : ∀ {xs : List V} {ds : List PyData}, DpAll K H xs ds → xs.length = ds.length
  | _, _, .nil => rfl
  | _, _, .cons _ t => by rw [List.length_cons, List.length_cons, DpAll.length t]
theorem snd_zip : ∀ {xs : List V} {ds : List PyData}, xs.length = ds.length → (xs.zip ds).map (fun b => b.2) = ds
  | [], [], _ => rfl
  | x :: xs, d :: ds, h => by
    rw [List.zip_cons_cons, List.map_cons, snd_zip (by simpa using h)]
  | [], _ :: _, h => by simp at h
  | _ :: _, [], h => by simp at h
theorem each_vals : ∀ {us : List Value} {bs : List (V × PyData)}, W.EachIs (fun (v : Value) (b : V × PyData) => RelV b.1 v) us bs → Vals (bs.map (·.1)) us
  | _, _, .nil => .nil
  | _, _, .cons h t => .cons h (each_vals t)
section
variable {X : Cx} {pins : List (Addr × Obj)} {σ : L2.St} {H : Hp} {s : Shared}
theorem each_of (I : Inv X pins σ H s) : ∀ {xs : List V} {ds : List PyData} {us : List Value}, Vals xs us → DpAll X.K H xs ds → W.EachIs (fun (v : Value) (b : V × PyData) => RelV b.1 v) us (xs.zip ds) ∧ W.EachIs (fun (v : Value) (b : V × PyData) => ∃ as, Reads s.heap v b.2 as) us (xs.zip ds)
  | _, _, _, .nil, .nil => ⟨.nil, .nil⟩
  | _, _, _, .cons r t, .cons h q => by
    obtain ⟨a, b⟩ := each_of I t q
    exact ⟨.cons r a, .cons (Dp.reads I _ _ _ h r) b⟩
theorem cr_sortedD : CallR X (.builtin "sorted") (rSortD X.K X.A.units) := by
  intro pins s σ H vs us Q I r h
  obtain ⟨a, xs, ds, rfl, hs, hd, hal, hso, hdp, q⟩ := h
  rw [Vals.ref1 r]
  obtain ⟨its, rv, hl, hz⟩ := I.list hs
  have hlen := DpAll.length hd
  obtain ⟨e1, e2⟩ := each_of I rv hd
  have hmap := snd_zip hlen
  refine W.sorted_data (β := V × PyData) (enc := fun b => b.2) hl.isList e1 e2 (by rw [hmap]; exact hal) (by rw [hmap]; exact hso) (by simp; omega) (fun b hb => hdp _ (by rw [← hmap]; exact List.mem_map.mpr ⟨b, hb, rfl⟩)) fun out ho e3 => ?_
  obtain ⟨ep, he'⟩ := PyProof.Rows.sortedAll_at s.heap its (List.toArray out)
  have hv : Vals (sortV xs ds) out := each_vals e3
  have hlen2 : (sortV xs ds).length ≤ sizeLine := by
    unfold sortV
    rw [List.length_map, List.length_mergeSort, List.length_zip]
    omega
  exact ⟨.ref _, upd H (s.heap.objs.size + 1) (.lst (sortV xs ds)), I.laid (t' := s.toks) (fun _ _ => PyProof.Rows.sortedAll_old) (Nat.le_succ _) ⟨hlen2, out, ep, hv, he'⟩, rfl, q _ (I.hok.fresh (Nat.le_succ _))⟩
end
end K64
namespace K64
open PySem PySem.Spec PyProof.Rows L2

/-! ### for i, x in enumerate(t), t a tuple -/
def IteT (K : PySem.W.Frag) (a : Addr) : It :=
  ⟨fun i H => ∃ xs x, SqT K H a xs ∧ xs[i]? = some x, fun i H v H' => ∃ T x, v = .ref T ∧ H T = none ∧ H' = upd H T (.tup [.int (i : Nat), x]) ∧ ∀ xs, SqT K H a xs → xs[i]? = some x, fun i H => ∃ xs, SqT K H a xs ∧ xs.length ≤ i⟩
theorem turn_enumT {P : Program} {w : World} {K : PySem.W.Frag} {elts : List Expr} {kk : Nat} {tpos : Pos} (a e it : Addr) :
    Turn P w K (.Tuple elts kk tpos) (IteT K a) [e, it] e (fun i h => (∃ old, IsEnum h e it ((i : Nat) : Int) old) ∧ h.IsTupleIter it a i ∧ e ≠ it ∧ a ≠ it ∧ a ≠ e) where
  mem := by simp
  obj := fun i h st b hb => by
    obtain ⟨⟨old, he⟩, ⟨o, ho, hc, hd⟩, _⟩ := st
    have e' : b = e ∨ b = it := by simpa using hb
    rcases e' with z | z
    · rw [z]; exact ⟨_, he, fun v q => nomatch q⟩
    · rw [z]; exact ⟨o, ho, fun v q => by rw [hd] at q; cases q⟩
  keep := fun i h h' st k => let ⟨⟨old, he⟩, hi, hne⟩ := st; ⟨⟨old, k e (by simp) _ he⟩, hi.at fun o q => k it (by simp) o q, hne⟩
  item := by
    intro X hP hw hK hc i pins s σ H E I hf st hg
    subst hP hw hK
    obtain ⟨⟨old, he⟩, hit, hne, hai, hae⟩ := st
    obtain ⟨xs, x, hq, hx⟩ := hg
    obtain ⟨its, rv, p, hz⟩ := I.tuple hq
    obtain ⟨u, hu, ru⟩ := rv.get hx
    have hel : e < s.heap.objs.size := Heap.lt_size he
    have hil : it < s.heap.objs.size := by obtain ⟨_, q, _⟩ := hit; exact Heap.lt_size q
    have D := Draws.tuple (prog := X.prog) (w := X.w) (A := X.A.in1) (I.ok.hd hc) it a hai its.toArray
    have hlt : i < its.toArray.size := by
      have := (List.getElem?_eq_some_iff.mp hu).1
      simpa using this
    refine wpAny_pyNext_enum_itemD D he ⟨hit, p⟩ hlt hne (by simp [hne, Ne.symm hae]) fun y h' tk hy ho hit' hT hsz hk => ?_
    have ey : y = u := by
      have hy' : its.toArray[i]? = some y := hy
      rw [List.getElem?_toArray, hu] at hy'
      exact (Option.some.inj hy').symm
    subst ey
    refine ⟨_, rfl, wpAny_letOwnedTupleGo_enum (s := { s with heap := h', toks := tk + 1 }) ho fun h'' he' sb => ?_⟩
    have hT2 : h''.get? s.heap.objs.size = some { cls := .type "tuple", data := .seq #[.int i tk, y] } := (sb.2 _ (Nat.ne_of_gt hel)).trans hT
    have new : ObjOk X.prog X.w (upd H s.heap.objs.size (.tup [.int (i : Nat), x])) h'' s.heap.objs.size (.tup [.int (i : Nat), x]) :=
      ⟨by show 2 ≤ sizeLine; decide, [.int i tk, y], .cons ⟨_, rfl⟩ (.cons ru .nil), ⟨_, hT2, rfl, _, rfl⟩⟩
    have I1 : Inv X pins σ (upd H s.heap.objs.size (.tup [.int (i : Nat), x])) { s with heap := h'', toks := tk + 1 } :=
      I.turnedNew (ch := [e, it]) (fun b ob hb q => (sb.2 b (fun z => hb (by simp [z]))).trans (hk b ob (fun z => hb (by simp [z])) (fun z => hb (by simp [z])) q)) hf (Nat.le_refl _) new
    refine ⟨.ref s.heap.objs.size, _, I1, rfl, ⟨_, x, rfl, I.hok.fresh (Nat.le_refl _), rfl, fun ys hy => by rw [I.tuple_inj hy hq]; exact hx⟩, ⟨⟨y, ?_⟩, hit'.1.at fun o q => (sb.2 it (Ne.symm hne)).trans q, hne, hai, hae⟩, fun b hb => ?_⟩
    · have e1 : ((i + 1 : Nat) : Int) = (i : Int) + 1 := by omega
      rw [e1]; exact he'
    · have hb' : b < s.heap.objs.size := by
        have e' : b = e ∨ b = it := by simpa using hb
        rcases e' with z | z
        · rw [z]; exact hel
        · rw [z]; exact hil
      rw [upd_ne (Nat.ne_of_lt hb')]
      exact (hf b hb).1
  done := by
    intro X hP hw hK hc i pins s σ H E I hf st hg
    subst hP hw hK
    obtain ⟨⟨old, he⟩, hit, hne, hai, hae⟩ := st
    obtain ⟨xs, hq, hx⟩ := hg
    obtain ⟨its, rv, p, hz⟩ := I.tuple hq
    obtain ⟨f0, f1, f2, f3, f4, f5⟩ := hf it (by simp)
    have hl := rv.length
    have e0 : its.toArray[i]? = none := by rw [List.getElem?_toArray, List.getElem?_eq_none]; omega
    have hTy : s.TypeIs (.ref e) "enumerate" := ⟨_, he, rfl⟩
    unfold pyNext
    refine wpAny_bind (wpAny_attempt (wpAny_callSpecial?_slot (name := Str.ofString "__next__") hTy F.slot_enumerate_next
      (wpAny_call_entry F.slot_enumerate_next hTy F.entry_enumerate_next ?_ (F.args_enumerate_next_1 _))))
    show wpAny _ _ (field (.ref e) 2 >>= _) _ _ _
    refine wpAny_bind (wpAny_field he rfl (x := .ref it) rfl ?_)
    refine wpAny_bind (wpAny_nextOf_tuple_end (I.ok.hd hc) hit p e0 fun h' x eb hx' => ?_)
    obtain ⟨o, ho, hcl⟩ := hx'
    refine wpAny_bind (wpAny_isInstance (T := "StopIteration") (b := true) ⟨o, ho, hcl⟩ isSubtype_stop ?_)
    exact wpAny_pure ⟨rfl, I.turned (t' := s.toks) (fun b o hb q => eb b o hb q) f0 f1 f3 f4 f5⟩
  self := fun A i s Q E st h => let ⟨⟨_, he⟩, _⟩ := st; wpAny_pyIter_enum he h
theorem meets_enumerate_newT (l : Addr) (items : Array Value) (n : Nat) (dct : Option Addr) (sl : Array (Option Value)) :
    Meets (Builtin.«enumerate.__new__» ⟨[.type "enumerate", .ref l], []⟩) (fun _ R s => s.heap.get? l = some { cls := .type "tuple", dict := dct, data := .seq items n, slots := sl } ∧
      R (.ok (.ret (.ref (s.heap.push { cls := .type "tuple_iterator", data := .fields #[.ref l, .int 0 0] }).objs.size)))
        { s with heap := (s.heap.push { cls := .type "tuple_iterator", data := .fields #[.ref l, .int 0 0] }).push { cls := .type "enumerate", data := .fields #[.none, .bool false, .ref s.heap.objs.size, rawInt 0, .none, .none] } }) :=
  .of_wp fun prog w A R s h => by
    obtain ⟨hp, g, d, tk, os⟩ := s; obtain ⟨hl, h⟩ := h
    have hsub := sub_enumerate
    have hL : Heap.IsTuple (Shared.heap ⟨hp, g, d, tk, os⟩) l items := ⟨_, hl, rfl, n, rfl⟩
    wp_walk using AutoSeq1.wpAny_loadPart' hl
    refine wpAny_stack_any fun st => wpAny_pure ?_
    split
    · rename_i c _ _ _ _ _
      cases (c == Value.type "enumerate")
      · wp_walk using AutoSeq1.wpAny_loadPart' hl, wpAny_pyIter_tuple hL
        exact ⟨_, rfl, h⟩
      · wp_walk using AutoSeq1.wpAny_loadPart' hl, wpAny_pyIter_tuple hL
        exact ⟨_, rfl, h⟩
    · wp_walk using AutoSeq1.wpAny_loadPart' hl, wpAny_pyIter_tuple hL
      exact ⟨_, rfl, h⟩
theorem call_enumerate_tup {prog : Program} {w : World} {A : Around} {E : Value → Shared → Prop} {s : Shared} {l : Addr} {items : Array Value} {Q : Value → Shared → Prop} (hL : s.heap.IsTuple l items)
    (h : ∀ h', IsEnum h' (s.heap.objs.size + 1) s.heap.objs.size 0 .none → h'.IsTupleIter s.heap.objs.size l 0 → h'.objs.size = s.heap.objs.size + 2 →
      (∀ b o, s.heap.get? b = some o → h'.get? b = some o) → Q (.ref (s.heap.objs.size + 1)) { s with heap := h' }) :
    wpAny (model prog w) A (call (.type "enumerate") [.ref l]) Q E s := by
  obtain ⟨⟨c, dct, dt, sl⟩, hl, hc, n, hd⟩ := hL
  replace hc : c = .type "tuple" := hc
  replace hd : dt = .seq items n := hd
  subst hc hd
  refine callType_new F.called_enumerate (by decide) (F.typeCall_enumerate_1 _) (F.newCall_enumerate_1 _) (fun obj => F.args_object_init_2 obj _) F.entry_enumerate_new
    (meets_enumerate_newT l items n dct sl) ⟨hl, ?_⟩
  have hz : (s.heap.push { cls := .type "tuple_iterator", data := .fields #[.ref l, .int 0 0] }).objs.size = s.heap.objs.size + 1 := Heap.size_push ..
  show _ ∧ _
  rw [hz]
  have he : IsEnum ((s.heap.push { cls := .type "tuple_iterator", data := .fields #[.ref l, .int 0 0] }).push
      { cls := .type "enumerate", data := .fields #[.none, .bool false, .ref s.heap.objs.size, rawInt 0, .none, .none] }) (s.heap.objs.size + 1) s.heap.objs.size 0 .none := by
    have := Heap.get?_push_size (s.heap.push { cls := .type "tuple_iterator", data := .fields #[.ref l, .int 0 0] })
      (o := { cls := .type "enumerate", data := .fields #[.none, .bool false, .ref s.heap.objs.size, rawInt 0, .none, .none] }) rfl
    rw [hz] at this; exact this
  refine ⟨⟨_, he, rfl⟩, h _ he ⟨_, Heap.get?_push_of_some _ (Heap.get?_push_size _ rfl), rfl, rfl⟩ (by rw [Heap.size_push, hz]) fun b o x => Heap.get?_push_of_some _ (Heap.get?_push_of_some _ x)⟩
def iEnumT (K : PySem.W.Frag) (ta : TA) : TI := fun σ H R => ta σ H fun vs H1 => ∃ a xs, vs = [.ref a] ∧ SqT K H1 a xs ∧ R (IteT K a) H1
theorem pi_enumT {X : Cx} {e : Expr} {ta : TA} {p pos tpos : Pos} {elts : List Expr} {kk : Nat} (hg : Gl X "enumerate") (hm : X.mg "enumerate" = none) (ha : PA X [e] ta) (hs : starEach [e] X.env = [(false, eval e X.env)] := by rfl) :
    PI X (.Tuple elts kk tpos) (.Call (.Name "enumerate" p) [e] [] pos) (iEnumT X.K ta) := by
  refine ⟨fun pins s σ H R I h => ?_⟩
  refine Call_ (ld_blt I hg hm boot_enumerate (PyProof.Rows.callWith_type1 (thn (ha.run pos pins s σ H _ I h) fun us s1 ⟨vs, H1, I1, r1, q1⟩ => ?_) hs rfl))
  obtain ⟨a, xs, ex, hq, q⟩ := q1
  subst ex
  cases r1 with
  | cons r rr =>
    cases rr
    cases r
    obtain ⟨its, rv, p', hz⟩ := I1.tuple hq
    have hal : a < s1.heap.objs.size := by obtain ⟨o, ho, _⟩ := id p'; exact Heap.lt_size ho
    refine call_enumerate_tup (show s1.heap.IsTuple a its.toArray from p') fun h' he hit hsz hk => wpAny_pyIter_enum he ?_
    have I2 : Inv X pins σ H1 { s1 with heap := h' } := I1.kept (t' := s1.toks) hk
    refine ⟨s1.heap.objs.size + 1, [s1.heap.objs.size + 1, s1.heap.objs.size], _, _, H1, rfl, I2, turn_enumT a (s1.heap.objs.size + 1) s1.heap.objs.size, ⟨⟨.none, he⟩, hit, Nat.succ_ne_self _, Nat.ne_of_lt hal, Nat.ne_of_lt (Nat.lt_succ_of_lt hal)⟩, fun b hb => ?_, q⟩
    have e' : b = s1.heap.objs.size + 1 ∨ b = s1.heap.objs.size := by simpa using hb
    have hle : s1.heap.objs.size ≤ b := by
      rcases e' with z | z
      · rw [z]; exact Nat.le_add_right _ _
      · rw [z]; exact Nat.le_refl _
    exact I1.fpOk hle (I1.hok.fresh hle)

/-! ### sum(t), t a tuple of ints -/
def rSumT (K : PySem.W.Frag) : List V → Hp → VK → Prop := fun vs H Q => ∃ (a : Addr) (ns : List Int), vs = [V.ref a] ∧ SqT K H a (ns.map V.int) ∧ Q (.int ns.sum) H
theorem cr_sumT {X : Cx} (hc : X.calm = true) : CallR X (.builtin "sum") (rSumT X.K) := by
  intro pins s σ H vs us Q I r h
  obtain ⟨a, ns, rfl, hs, q⟩ := h
  obtain ⟨its, rv, hl, _⟩ := I.tuple hs
  rw [Vals.ref1 r]
  have hi : IntsAre its ns := rv.ints
  obtain ⟨xs, e⟩ := hi.allInts.items
  have hn : numsOf (intItems xs).toList = ns := by rw [← e]; exact hi.numsOf
  rw [nums_intItems] at hn
  have hl' : s.heap.IsTuple a (intItems xs) := by
    have : s.heap.IsTuple a its.toArray := hl
    rw [e] at this
    exact this
  refine W.ktm_sumG (I.ok.hd hc) hl' fun h' tk t' hk => ?_
  have e2 : preSum (numAt xs) xs.size = ns.sum := by rw [preSum_eq, List.take_of_length_le (by simp), hn]
  rw [e2]
  exact ⟨.int _, H, I.kept hk, ⟨_, rfl⟩, q⟩

/-! ### sorted(t), t a tuple of tuples (and other data) -/
theorem collect_tuple {prog : Program} {w : World} {A : Around} {E : Value → Shared → Prop} {s : Shared} {l : Addr} {vs : List Value} {Q : List Value → Shared → Prop} (hl : s.heap.IsTuple l vs.toArray)
    (h : Q vs { s with heap := (s.heap.push (seqObj "list" #[] 0)).update s.heap.objs.size (Obj.mapSeq (· ++ vs.toArray)) }) (hsz : vs.length ≤ sizeLine) :
    wpAny (model prog w) A (collect (.ref l)) Q E s := by
  obtain ⟨o, ho, hc, n, hd⟩ := id hl
  unfold collect
  refine wpAny_bind (wpAny_runValue (codeAny_builtin entry_proto_collect' ?_))
  show wpAny _ _ (do again (.builtin "list.__iadd__" ⟨[← newList [], .ref l], []⟩)) _ _ s
  refine wpAny_bind (wpAny_newList (wpAny_pure ⟨Code.quiet_builtin _ (by decide +kernel), codeAny_builtin entry_list_iadd' ?_⟩))
  show wpAny _ _ (Builtin.List.listExtendWith (.ref s.heap.objs.size) (.ref l) (.ref s.heap.objs.size)) _ _ { s with heap := s.heap.push (seqObj "list" #[] 0) }
  unfold Builtin.List.listExtendWith
  have ho' : (s.heap.push (seqObj "list" #[] 0)).get? l = some o := Heap.get?_push_of_some _ ho
  refine wpAny_bind (wpAny_typeOf (T := "tuple") ⟨o, ho', hc⟩ ?_)
  have ht : (Value.type "tuple" == Value.type "tuple") = true := by rfl
  rw [if_pos (by rw [ht]; simp)]
  refine wpAny_bind (listItems_at ho' hd ?_)
  refine wpAny_bind (listItems_at (xs := #[]) (n := 0) (Heap.get?_push_size _ rfl) rfl ?_)
  rw [if_neg (by simp)]
  refine wpAny_bind (listUpdate_at (xs := #[]) (n := 0) (Heap.get?_push_size _ rfl) rfl ?_ (Nat.zero_le _) (by show (#[] ++ vs.toArray).size ≤ sizeLine + 1; simp only [Array.size_append, List.size_toArray, List.length_nil]; omega))
  refine wpAny_pure ?_
  show wpAny (model prog w) A (do
      let o ← load s.heap.objs.size
      match o.data with
      | .seq xs _ => pure xs.toList
      | _ => unsupported "internal:collect") Q E { s with heap := (s.heap.push (seqObj "list" #[] 0)).update s.heap.objs.size (Obj.mapSeq (· ++ vs.toArray)) }
  refine wpAny_bind (wpAny_load (get?_update_seq (Heap.get?_push_size _ rfl) _) ?_)
  show wpAny _ _ (pure ((#[] : Array Value) ++ vs.toArray).toList) Q E _
  rw [show ((#[] : Array Value) ++ vs.toArray).toList = vs by simp]
  exact wpAny_pure h
open PySem.W in
theorem sortedT_data {prog : Program} {w : World} {A : Around} {E : Value → Shared → Prop} {s : Shared} {β : Type} {vs : List Value} {bs : List β} {enc : β → PyData} {R : Value → β → Prop} {l : Addr} {Q : Value → Shared → Prop}
    (hl : s.heap.IsTuple l vs.toArray) (e : EachIs R vs bs) (er : EachIs (fun v b => ∃ as, Reads s.heap v (enc b) as) vs bs) (hal : AllAlike (bs.map enc)) (hk : W.Sortable (bs.map enc)) (hL : bs.length ≤ sizeLine)
    (hu : ∀ b, b ∈ bs → A.units + 2 + (enc b).depth < cLine) (h : ∀ out, out.length = bs.length → EachIs R out (bs.mergeSort (dataLe false enc)) → Q (.ref (s.heap.objs.size + 1)) { s with heap := sortedAll s.heap vs (List.toArray out) }) :
    wpAny (model prog w) A (call (.builtin "sorted") [.ref l]) Q E s := by
  have er' : EachIs (fun v b => ∃ as, Reads (sortingHeap (copyHeap s.heap vs) (s.heap.objs.size + 1) vs) v (enc b) as) vs bs := er.mono fun _ _ ⟨as, r⟩ => ⟨as, PyProof.Rows.Reads.keeps (fun _ _ => sorting_copy_old) r⟩
  have S : SortsAt prog w A.in1.in1 { s with heap := sortingHeap (copyHeap s.heap vs) (s.heap.objs.size + 1) vs } _ vs := SortsAt.data (s := { s with heap := sortingHeap (copyHeap s.heap vs) (s.heap.objs.size + 1) vs }) (each_map (R := fun v d => ∃ as, Reads (sortingHeap (copyHeap s.heap vs) (s.heap.objs.size + 1) vs) v d as) enc er') hal hk (bound_map hu)
  have hL' : vs.length ≤ sizeLine := by rw [e.length]; exact hL
  have fin := h _ (by rw [sortVals_length false rfl]; exact e.length) (sortVals_data false e er' hal)
  refine Calls.call_function_entry kind_sorted plain_sorted entry_sorted (args_sorted1 _) ?_
  unfold Builtin.«sorted»
  refine wpAny_bind (m := checkCount "sorted" 1 1 _) (wpAny_pure ?_)
  refine wpAny_bind (collect_tuple hl ?_ hL')
  refine wpAny_bind (wpAny_newList ?_ hL')
  have hsz : ((s.heap.push (seqObj "list" #[] 0)).update s.heap.objs.size (Obj.mapSeq (· ++ vs.toArray))).objs.size = s.heap.objs.size + 1 := by
    rw [Heap.size_update, size_push']
  show wpAny _ _ _ _ _ { s with heap := copyHeap s.heap vs }
  rw [hsz]
  refine wpAny_bind (wpAny_holding (wpAny_call_entry slot_list_sort ⟨_, copyHeap_at s.heap vs, rfl⟩ entry_list_sort ?body (args_list_sort _)))
  case body =>
    show wpAny (model prog w) A.in1.in1 (Builtin.«list.sort» ⟨[.ref (s.heap.objs.size + 1)], []⟩) _ _ _
    refine list_sort_vals (s := { s with heap := copyHeap s.heap vs }) (copyHeap_at s.heap vs) S hL' ?_
    exact ⟨_, rfl, wpAny_pure ⟨_, rfl, fin⟩⟩
def rSortT (K : PySem.W.Frag) (u : Nat) : List V → Hp → VK → Prop := fun vs H Q => ∃ (a : Addr) (xs : List V) (ds : List PyData), vs = [.ref a] ∧ SqT K H a xs ∧ DpAll K H xs ds ∧ W.AllAlike ds ∧ W.Sortable ds ∧
  (∀ d ∈ ds, u + 2 + d.depth < cLine) ∧ ∀ p, H p = none → Q (.ref p) (upd H p (.lst (sortV xs ds)))
theorem cr_sortedT {X : Cx} : CallR X (.builtin "sorted") (rSortT X.K X.A.units) := by
  intro pins s σ H vs us Q I r h
  obtain ⟨a, xs, ds, rfl, hs, hd, hal, hso, hdp, q⟩ := h
  rw [Vals.ref1 r]
  obtain ⟨its, rv, hl, hz⟩ := I.tuple hs
  have hlen := DpAll.length hd
  obtain ⟨e1, e2⟩ := each_of I rv hd
  have hmap := snd_zip hlen
  refine sortedT_data (β := V × PyData) (enc := fun b => b.2) (show s.heap.IsTuple a its.toArray from hl) e1 e2 (by rw [hmap]; exact hal) (by rw [hmap]; exact hso) (by simp; omega) (fun b hb => hdp _ (by rw [← hmap]; exact List.mem_map.mpr ⟨b, hb, rfl⟩)) fun out ho e3 => ?_
  obtain ⟨ep, he'⟩ := PyProof.Rows.sortedAll_at s.heap its (List.toArray out)
  have hv : Vals (sortV xs ds) out := each_vals e3
  have hlen2 : (sortV xs ds).length ≤ sizeLine := by
    unfold sortV
    rw [List.length_map, List.length_mergeSort, List.length_zip]
    omega
  exact ⟨.ref _, upd H (s.heap.objs.size + 1) (.lst (sortV xs ds)), I.laid (t' := s.toks) (fun _ _ => PyProof.Rows.sortedAll_old) (Nat.le_succ _) ⟨hlen2, out, ep, hv, he'⟩, rfl, q _ (I.hok.fresh (Nat.le_succ _))⟩
end K64
namespace K64
open PySem PySem.Spec PyProof.Rows L2

/-! ### xs[i] += e, xs a list, 0 ≤ i -/
def rGetL (K : PySem.W.Frag) : V → V → Hp → VK → Prop := fun x y H Q => ∃ p xs i v, x = .ref p ∧ y = .int i ∧ SqL K H p xs ∧ 0 ≤ i ∧ atI xs i = some v ∧ Q v H
theorem get_list {X : Cx} : PGet X (rGetL X.K) := by
  intro pins s σ H o i ov iv Q I ro ri h
  obtain ⟨p, xs, k, z, rfl, rfl, hq, h0, he, q⟩ := h
  cases ro
  obtain ⟨t, rfl⟩ := ri
  obtain ⟨its, r, pl, hz⟩ := I.list hq
  obtain ⟨j, h1, h2, h3, h4, h5⟩ := atI_get he
  obtain ⟨w, ew, rw'⟩ := r.get h2
  have hl := r.length
  have hn := line63
  have hj : k.toNat = j := by
    rw [seqIndex_of h0 h5] at h1
    exact Option.some.inj h1
  exact wpAny_getItem_list pl.isList h0 (by omega) (by rw [hj]; simpa using ew) ⟨z, H, I, rw', q⟩

/-! ### t * k, t a tuple that isn't empty, any 0 ≤ k ≤ 1000 -/
theorem tuple_mul1 (l : Addr) (items : Array Value) (n : Nat) (dd : Option Addr) (sl : Array (Option Value)) (u : Tok) :
    Meets (Builtin.«tuple.__mul__» ⟨[.ref l, .int 1 u], []⟩) (fun _ R s => s.heap.get? l = some { cls := .type "tuple", dict := dd, data := .seq items n, slots := sl } ∧
      R (.ok (.ret (Value.ref l))) s) :=
  .of_wp fun prog w A R s h => by
    obtain ⟨hp, g, d, tk, os⟩ := s
    obtain ⟨hl, h⟩ := h
    have f1 := AutoSeq1.idx_int
    have hT : Shared.TypeIs ⟨hp, g, d, tk, os⟩ (.ref l) "tuple" := ⟨_, hl, rfl⟩
    have c0 : (decide ((1 : Int) < -(2 ^ 63)) || decide ((1 : Int) ≥ 2 ^ 63)) = false := by decide
    have c1 : (items.isEmpty || (1 : Int) == 1) = true := by simp
    wp_walk using AutoSeq1.wpAny_loadPart' hl, wpAny_typeOf hT
    repeat (first
      | (refine wpAny_ite_false (decide_eq_false (by rw [c0]; exact Bool.false_ne_true)) ?_; wp_walk using AutoSeq1.wpAny_loadPart' hl, wpAny_typeOf hT)
      | (refine wpAny_ite_true (decide_eq_true (by rw [c1])) ?_; wp_walk using AutoSeq1.wpAny_loadPart' hl, wpAny_typeOf hT))
    exact ⟨_, rfl, h⟩
theorem tuple_mul0 (l : Addr) (items : Array Value) (n : Nat) (dd : Option Addr) (sl : Array (Option Value)) (u : Tok) (hi : items.isEmpty = false) :
    Meets (Builtin.«tuple.__mul__» ⟨[.ref l, .int 0 u], []⟩) (fun _ R s => s.heap.get? l = some { cls := .type "tuple", dict := dd, data := .seq items n, slots := sl } ∧
      R (.ok (.ret (Value.ref s.heap.objs.size))) { s with heap := s.heap.push { cls := Value.type "tuple", data := Data.seq #[] }, toks := s.toks }) :=
  .of_wp fun prog w A R s h => by
    obtain ⟨hp, g, d, tk, os⟩ := s
    obtain ⟨hl, h⟩ := h
    have f1 := AutoSeq1.idx_int
    have c0 : (decide ((0 : Int) < -(2 ^ 63)) || decide ((0 : Int) ≥ 2 ^ 63)) = false := by decide
    have c1 : (items.isEmpty || (0 : Int) == 1) = false := by rw [hi]; rfl
    have c2 : (decide ((0 : Int) ≤ 0) || items.isEmpty) = true := by simp
    wp_walk using AutoSeq1.wpAny_loadPart' hl
    repeat (first
      | (refine wpAny_ite_false (decide_eq_false (by rw [c0]; exact Bool.false_ne_true)) ?_; wp_walk using AutoSeq1.wpAny_loadPart' hl)
      | (refine wpAny_ite_false (decide_eq_false (by rw [c1]; exact Bool.false_ne_true)) ?_; wp_walk using AutoSeq1.wpAny_loadPart' hl)
      | (refine wpAny_ite_true (decide_eq_true (by rw [c2])) ?_; wp_walk using AutoSeq1.wpAny_loadPart' hl))
    exact ⟨_, rfl, h⟩
def rRepA (K : PySem.W.Frag) : R2 := fun x y H Q => ∃ l k xs, x = .ref l ∧ y = .int k ∧ SqT K H l xs ∧ xs ≠ [] ∧ 0 ≤ k ∧ k ≤ 1000 ∧ xs.length ≤ 1000 ∧
  (k = 1 → Q (.ref l) H) ∧ (k ≠ 1 → ∀ p, H p = none → Q (.ref p) (upd H p (.tup (List.replicate k.toNat xs).flatten)))
theorem op_repA {X : Cx} : OpR X (binaryOp .Mult) (rRepA X.K) := by
  intro pins s σ H x y v u Q I rx ry h
  obtain ⟨l, k, xs, rfl, rfl, hT, hne, h1, h2, hz, q1, q⟩ := h
  by_cases hk2 : 2 ≤ k
  · exact op_repT pins s σ H _ _ v u Q I rx ry ⟨l, k, xs, rfl, rfl, hT, hne, hk2, h2, hz, q (by omega)⟩
  cases rx
  obtain ⟨t, rfl⟩ := ry
  obtain ⟨its, r, ⟨⟨cls, dd, data, sl⟩, ho, hc, n, hd⟩, hs⟩ := I.tuple hT
  simp only at hc hd
  subst hc hd
  have hle : its.length = xs.length := r.length.symm
  have hn : its ≠ [] := fun e => hne (by
    rw [e] at hle
    exact List.eq_nil_of_length_eq_zero hle.symm)
  have hi : its.toArray.isEmpty = false := by
    cases its with
    | nil => exact absurd rfl hn
    | cons a b => rfl
  have hk : k = 0 ∨ k = 1 := by omega
  rcases hk with rfl | rfl
  · refine wpAny_binaryOp_repeat_ref (T := "tuple") (U := "int") (by decide) ⟨_, ho, rfl⟩ (fun s' => typeIs_int s' 0 t) noFill_tuple_mul F.fills_int_mul F.slot_int_rmul repeat_tuple F.slot_int_index.lookup
      (call_meets F.slot_int_rmul (typeIs_int s 0 t) F.entry_int_rmul (F.args_int_rmul_2 _ _) (int_rmul_tuple 0 t l its.toArray n dd sl)
        ⟨ho, rfl, ⟨_, ho, rfl⟩, call_meets F.slot_tuple_mul ⟨_, ho, rfl⟩ F.entry_tuple_mul (F.args_tuple_mul_2 _ _) (tuple_mul0 l its.toArray n dd sl t hi) ⟨ho, ?_⟩⟩)
    refine ⟨.ref s.heap.objs.size, _, I.laid (t' := s.toks) (o := .tup (List.replicate (0 : Int).toNat xs).flatten) (fun b ob q => Heap.get?_push_of_some _ q) (Nat.le_refl _) ?_, rfl, q (by decide) _ (I.hok.fresh (Nat.le_refl _))⟩
    exact ⟨Nat.zero_le _, [], .nil, IsTup.new _ _⟩
  · refine wpAny_binaryOp_repeat_ref (T := "tuple") (U := "int") (by decide) ⟨_, ho, rfl⟩ (fun s' => typeIs_int s' 1 t) noFill_tuple_mul F.fills_int_mul F.slot_int_rmul repeat_tuple F.slot_int_index.lookup
      (call_meets F.slot_int_rmul (typeIs_int s 1 t) F.entry_int_rmul (F.args_int_rmul_2 _ _) (int_rmul_tuple 1 t l its.toArray n dd sl)
        ⟨ho, rfl, ⟨_, ho, rfl⟩, call_meets F.slot_tuple_mul ⟨_, ho, rfl⟩ F.entry_tuple_mul (F.args_tuple_mul_2 _ _) (tuple_mul1 l its.toArray n dd sl t) ⟨ho, ?_⟩⟩)
    exact ⟨.ref l, H, I, rfl, q1 rfl⟩
end K64
namespace K64
open PySem PySem.Spec PyProof.Rows L2

/-! ### max(t, key=lambda term: (sum(term[0]), term[0])), t a tuple of pairs (powers, factor) -/
abbrev keyBody (p1 p2 p3 p4 p5 p6 p7 p8 p9 : Pos) (z1 z2 z3 : Nat) : Expr :=
  .Tuple [.Call (.Name "sum" p1) [.Subscript (.Name "term" p2) (.Constant (.int 0) z1 p3) p4] [] p5, .Subscript (.Name "term" p6) (.Constant (.int 0) z2 p7) p8] z3 p9
theorem lamKey_run {P : Program} {w : World} {K : PySem.W.Frag} {mg : Str → Option Value} {base : Heap} {A : Around} {outer : List Env} {s : Shared} {H : Hp} {k : Nat} (hr : Room (k + 1) A) (e0 : Env0 P w K mg base A outer s H)
    {f c' : Addr} {qual : Str} {params : Arguments} {scope : Scope} {pm ctv : Value} {p1 p2 p3 p4 p5 p6 p7 p8 p9 : Pos} {z1 z2 z3 : Nat}
    (hf : s.heap.get? f = some (PySem.W.kla_obj "<lambda>" qual params (keyBody p1 p2 p3 p4 p5 p6 p7 p8 p9 z1 z2 z3) scope [] pm c' ctv)) (hc : s.heap.CodeRec (.ref c') qual)
    (S : FnScope ["term"] ["term"] scope) (hl : scope.names.lookup ("term" : Str) = some .local) (hg : scope.names.lookup ("sum" : Str) = some .globalImplicit) (hm : mg "sum" = none)
    (hb : ∀ u : Value, bindArgs (PySem.W.kla_fn "<lambda>" qual params (keyBody p1 p2 p3 p4 p5 p6 p7 p8 p9 z1 z2 z3) scope [] pm (.ref c') ctv) ⟨[u], []⟩ = pure [(("term" : Str), u)])
    {t q : Addr} {ks : List Int} {c : V} (ht : H t = some (.tup [.ref q, c])) (hq : H q = some (.tup (ks.map V.int))) :
    codeAny (model P w) A (.call (.ref f) ⟨[.ref t], []⟩) (fun r s' => ∃ (T : Addr) (tk : Tok), r = .ok (.ret (.ref T)) ∧ s'.os = s.os ∧ AllBare s'.gens ∧ Un (frs outer) [] H H s.heap s'.heap ∧ HOk P w H s'.heap ∧ s.heap.objs.size ≤ T ∧
      s'.heap.get? T = some { cls := .type "tuple", data := .seq #[.int ks.sum tk, .ref q] }) s := by
  have lim : s.heap.NoLimit := e0.mod.nolimit.keeps fun b o e => (e0.bs b o e).1
  refine PySem.W.kla_callFunE hr.depth hf rfl S.co S.gen rfl hc ?_
  rw [hb]
  refine wpAny_pure ?_
  have hkind : ∀ y ∈ ([("term", Value.ref t)] : List (Str × Value)), scope.names.lookup y.1 = some .local ∨ (scope.names.lookup y.1 = some .cell ∧ ((cellsFrom (s.heap.objs.size + 1) scope.names []).lookup y.1).isSome = true) := fun y hy => by
    rw [List.mem_singleton] at hy
    subst hy
    exact .inl hl
  refine wpAny_newFunctionEnv_cells S.kind hkind fun env he s1 x => ?_
  subst he
  refine ⟨lim.keeps x.toInCall.keep, PySem.W.kla_codeExpr ?_⟩
  have I : Inv (cxOf C8.CX0 P w K mg base ["term"] qual scope f (.ref c') A outer s H C8.E0) [] (L2.start ["term"] [.ref t]) H s1 := inv_start S hr.hd e0 rfl (.cons rfl .nil) x
  have PAs : PA (cxOf C8.CX0 P w K mg base ["term"] qual scope f (.ref c') A outer s H C8.E0) [.Call (.Name "sum" p1) [.Subscript (.Name "term" p2) (.Constant (.int 0) z1 p3) p4] [] p5, .Subscript (.Name "term" p6) (.Constant (.int 0) z2 p7) p8] _ :=
    pa_cons (pe_callB (cr_sumT rfl) hg hm boot_sum (pa_cons (pe_ix ix_tup (pe_var (i := 0) rfl (.inl hl)) pe_int (fun _ _ => rfl)) pa_nil))
      (pa_cons (pe_ix ix_tup (pe_var (i := 0) rfl (.inl hl)) pe_int (fun _ _ => rfl)) pa_nil)
  refine wpAny_mono (E := (cxOf C8.CX0 P w K mg base ["term"] qual scope f (.ref c') A outer s H C8.E0).xe) ?_ (fun _ _ z => z) fun e s' z => wpAny_mono (show wpAny _ _ (leaving _ e) (fun _ s'' => C8.CX0 outer H s C8.E0 e s'') (fun e' s'' => C8.CX0 outer H s C8.E0 e' s'') s' from z) (fun _ _ y => False.elim y) fun _ _ y => False.elim y
  refine wpAny_Tuple_spliced (thn (PAs.run p9 [] s1 (L2.start ["term"] [.ref t]) H (fun xs H1 => xs = [.int ks.sum, .ref q] ∧ H1 = H) I ?_) fun us s2 ⟨xs, H1, I1, r, e1, e2⟩ => ?_)
  · have at0 : atI [V.ref q, c] 0 = some (V.ref q) := rfl
    exact ⟨_, rfl, t, _, 0, _, rfl, rfl, SqT.of ht, at0, ⟨q, ks, rfl, SqT.of hq, ⟨_, rfl, t, _, 0, _, rfl, rfl, SqT.of ht, at0, rfl, rfl⟩⟩⟩
  · subst e1 e2
    obtain ⟨u1, u2, rfl, r1, r2⟩ := Vals.two r
    obtain ⟨tk, rfl⟩ := r1
    cases r2
    refine ⟨by show 2 ≤ sizeLine; decide, ?_⟩
    have kp : ∀ b o, s2.heap.get? b = some o → (s2.heap.push { cls := .type "tuple", data := .seq #[.int ks.sum tk, .ref q] }).get? b = some o := fun b o e => Heap.get?_push_of_some _ e
    have J := I1.kept (t' := s2.toks) kp
    have hsz : s.heap.objs.size ≤ s2.heap.objs.size := I1.sz
    exact ⟨s2.heap.objs.size, tk, rfl, J.os, J.bare, J.base, J.hok, hsz, Heap.get?_push_size _ rfl⟩
end K64
namespace K64
/-! ### polynomials as ascending lists of (powers, factor): plain Lean -/
abbrev Pol := List (List Int × Int)
def getP : Pol → List Int → Int
  | [], _ => 0
  | (k, c) :: r, x => if k = x then c else getP r x
def putP : Pol → List Int → Int → Pol
  | [], x, v => [(x, v)]
  | (k, c) :: r, x, v => if k = x then (k, v) :: r else (k, c) :: putP r x v
def addP (d : Pol) (x : List Int) (f : Int) : Pol := putP d x (getP d x + f)
def S (φ : List Int → Int) : Pol → Int
  | [] => 0
  | (k, c) :: r => c * φ k + S φ r
def norm : Pol → Nat
  | [] => 0
  | (_, c) :: r => c.natAbs + norm r
theorem S_addP (φ : List Int → Int) (x : List Int) (f : Int) : ∀ d : Pol, S φ (addP d x f) = S φ d + f * φ x
  | [] => by simp [addP, putP, getP, S]
  | (k, c) :: r => by
    have ih := S_addP φ x f r
    unfold addP at ih ⊢
    by_cases h : k = x
    · subst h
      simp [putP, getP, S, Int.add_mul]
      omega
    · simp [putP, getP, S, h, ih]
      omega
theorem norm_addP (x : List Int) (f : Int) : ∀ d : Pol, norm (addP d x f) ≤ norm d + f.natAbs
  | [] => by simp [addP, putP, getP, norm]
  | (k, c) :: r => by
    have ih := norm_addP x f r
    unfold addP at ih ⊢
    by_cases h : k = x
    · subst h
      simp [putP, getP, norm]
      omega
    · simp [putP, getP, norm, h]
      omega
theorem mem_putP {x : List Int} {v : Int} : ∀ {d : Pol} {e : List Int × Int}, e ∈ putP d x v → e.1 = x ∨ e ∈ d
  | [], e, h => by
    simp [putP] at h
    left; rw [h]
  | (k, c) :: r, e, h => by
    by_cases hk : k = x
    · simp [putP, hk] at h
      rcases h with h | h
      · left; rw [h]
      · right; exact List.mem_cons_of_mem _ h
    · simp [putP, hk] at h
      rcases h with h | h
      · right; rw [h]; exact List.mem_cons_self
      · rcases mem_putP h with h | h
        · left; exact h
        · right; exact List.mem_cons_of_mem _ h
theorem keys_putP {x : List Int} {v : Int} : ∀ {d : Pol}, (d.map (·.1)).Nodup → ((putP d x v).map (·.1)).Nodup
  | [], _ => by simp [putP]
  | (k, c) :: r, h => by
    rw [List.map_cons, List.nodup_cons] at h
    by_cases hk : k = x
    · simp only [putP, hk, if_true, List.map_cons, List.nodup_cons]
      subst hk
      exact h
    · simp only [putP, hk, if_false, List.map_cons, List.nodup_cons]
      refine ⟨fun q => ?_, keys_putP h.2⟩
      obtain ⟨e, he, hek⟩ := List.mem_map.mp q
      rcases mem_putP he with z | z
      · exact hk (by rw [← hek, z])
      · exact h.1 (List.mem_map.mpr ⟨e, z, hek⟩)
theorem length_putP {x : List Int} {v : Int} : ∀ {d : Pol}, (putP d x v).length ≤ d.length + 1
  | [] => by simp [putP]
  | (k, c) :: r => by
    by_cases hk : k = x
    · simp [putP, hk]
    · have := length_putP (x := x) (v := v) (d := r)
      simp [putP, hk]
      omega
theorem putP_new {x : List Int} {v : Int} : ∀ {d : Pol}, (∀ e ∈ d, e.1 ≠ x) → putP d x v = d ++ [(x, v)]
  | [], _ => rfl
  | (k, c) :: r, h => by
    have h1 : k ≠ x := h (k, c) List.mem_cons_self
    simp only [putP, h1, if_false, List.cons_append]
    rw [putP_new fun e he => h e (List.mem_cons_of_mem _ he)]
/-- dict(p) of a list of pairs whose keys are all different is the list itself -/
theorem fold_putP : ∀ (p d : Pol), ((d ++ p).map (·.1)).Nodup → p.foldl (fun d e => putP d e.1 e.2) d = d ++ p
  | [], d, _ => by simp
  | (k, c) :: p, d, h => by
    show p.foldl (fun d e => putP d e.1 e.2) (putP d k c) = d ++ (k, c) :: p
    have hn : ∀ e ∈ d, e.1 ≠ k := by
      intro e he q
      rw [List.map_append, List.map_cons, List.nodup_append] at h
      exact h.2.2 e.1 (List.mem_map.mpr ⟨e, he, rfl⟩) k List.mem_cons_self q
    rw [putP_new hn, fold_putP p (d ++ [(k, c)]) (by simpa using h)]
    simp
/-! the order of pairs -/
def leP (a b : List Int × Int) : Bool := decide (a.1 < b.1 ∨ (a.1 = b.1 ∧ a.2 ≤ b.2))
theorem lt_irr (k : List Int) : ¬ k < k := List.lt_irrefl k
theorem lt_tr {a b c : List Int} (h : a < b) (g : b < c) : a < c := List.lt_trans h g
theorem lt_or (a b : List Int) : a < b ∨ a = b ∨ b < a := by
  by_cases h : a < b
  · exact .inl h
  · by_cases g : b < a
    · exact .inr (.inr g)
    · exact .inr (.inl (List.le_antisymm (List.not_lt.mp g) (List.not_lt.mp h)))
theorem leP_total (a b : List Int × Int) : (leP a b || leP b a) = true := by
  simp only [leP, Bool.or_eq_true, decide_eq_true_eq]
  rcases lt_or a.1 b.1 with h | h | h
  · exact .inl (.inl h)
  · rcases Int.le_total a.2 b.2 with g | g
    · exact .inl (.inr ⟨h, g⟩)
    · exact .inr (.inr ⟨h.symm, g⟩)
  · exact .inr (.inl h)
theorem leP_trans (a b c : List Int × Int) (h : leP a b = true) (g : leP b c = true) : leP a c = true := by
  simp only [leP, decide_eq_true_eq] at *
  rcases h with h | ⟨h1, h2⟩
  · rcases g with g | ⟨g1, g2⟩
    · exact .inl (lt_tr h g)
    · exact .inl (g1 ▸ h)
  · rcases g with g | ⟨g1, g2⟩
    · exact .inl (h1 ▸ g)
    · exact .inr ⟨h1.trans g1, Int.le_trans h2 g2⟩
def tidyP (d : Pol) : Pol := (d.filter fun e => e.2 != 0).mergeSort leP
def Asc (p : Pol) : Prop := p.Pairwise fun a b => a.1 < b.1
theorem S_perm (φ : List Int → Int) {p q : Pol} (h : p.Perm q) : S φ p = S φ q := by
  induction h with
  | nil => rfl
  | cons x _ ih => obtain ⟨k, c⟩ := x; simp [S, ih]
  | swap x y l => obtain ⟨k, c⟩ := x; obtain ⟨k', c'⟩ := y; simp [S]; omega
  | trans _ _ h1 h2 => exact h1.trans h2
theorem norm_perm {p q : Pol} (h : p.Perm q) : norm p = norm q := by
  induction h with
  | nil => rfl
  | cons x _ ih => obtain ⟨k, c⟩ := x; simp [norm, ih]
  | swap x y l => obtain ⟨k, c⟩ := x; obtain ⟨k', c'⟩ := y; simp [norm]; omega
  | trans _ _ h1 h2 => exact h1.trans h2
theorem S_filter (φ : List Int → Int) : ∀ d : Pol, S φ (d.filter fun e => e.2 != 0) = S φ d
  | [] => rfl
  | (k, c) :: r => by
    by_cases h : c = 0
    · have e : List.filter (fun e : List Int × Int => e.2 != 0) ((k, c) :: r) = List.filter (fun e => e.2 != 0) r := by simp [h]
      rw [e, S_filter φ r]
      simp [S, h]
    · have e : List.filter (fun e : List Int × Int => e.2 != 0) ((k, c) :: r) = (k, c) :: List.filter (fun e => e.2 != 0) r := by simp [h]
      rw [e]
      simp [S, S_filter φ r]
theorem norm_filter (f : List Int × Int → Bool) : ∀ d : Pol, norm (d.filter f) ≤ norm d
  | [] => Nat.le_refl _
  | (k, c) :: r => by
    have := norm_filter f r
    rw [List.filter_cons]
    split
    · simp [norm]; omega
    · simp [norm]; omega
theorem S_tidy (φ : List Int → Int) (d : Pol) : S φ (tidyP d) = S φ d := (S_perm φ (List.mergeSort_perm _ _)).trans (S_filter φ d)
theorem norm_tidy (d : Pol) : norm (tidyP d) ≤ norm d := by
  unfold tidyP
  rw [norm_perm (List.mergeSort_perm _ _)]
  exact norm_filter _ d
theorem mem_tidy {d : Pol} {e : List Int × Int} : e ∈ tidyP d ↔ e ∈ d ∧ e.2 ≠ 0 := by
  unfold tidyP
  rw [(List.mergeSort_perm _ _).mem_iff, List.mem_filter]
  simp
theorem asc_tidy {d : Pol} (h : (d.map (·.1)).Nodup) : Asc (tidyP d) := by
  have h1 : ((tidyP d).map (·.1)).Nodup := by
    have hp : ((tidyP d).map (·.1)).Perm ((d.filter fun e => e.2 != 0).map (·.1)) := (List.mergeSort_perm _ _).map _
    rw [hp.nodup_iff]
    exact h.sublist (List.Sublist.map _ List.filter_sublist)
  have h2 : (tidyP d).Pairwise fun a b => leP a b = true := List.pairwise_mergeSort (le := leP) leP_trans leP_total _
  have h3 : (tidyP d).Pairwise fun a b => a.1 ≠ b.1 := List.pairwise_map.mp h1
  refine (h2.and h3).imp fun {a b} ⟨x, y⟩ => ?_
  simp only [leP, decide_eq_true_eq] at x
  rcases x with x | x
  · exact x
  · exact absurd x.1 y
theorem Asc.nodup {p : Pol} (h : Asc p) : (p.map (·.1)).Nodup := List.pairwise_map.mpr (List.Pairwise.imp (R := fun a b : List Int × Int => a.1 < b.1) (S := fun a b => a.1 ≠ b.1) (fun {a b} q e => lt_irr b.1 (by rw [e] at q; exact q)) h)
theorem Asc.sorted {p : Pol} (h : Asc p) : p.mergeSort leP = p := List.mergeSort_of_pairwise (h.imp fun {a b} q => by simp [leP, q])
/-- a polynomial over n pots: ascending, no factor 0, powers from 0 to b, the factors' sizes together at most N -/
structure Ok (n b N : Nat) (p : Pol) : Prop where
  asc : Asc p
  nz : ∀ e ∈ p, e.2 ≠ 0
  len : ∀ e ∈ p, e.1.length = n
  lo : ∀ e ∈ p, ∀ x ∈ e.1, 0 ≤ x ∧ x ≤ (b : Int)
  nm : norm p ≤ N
theorem Ok.mono {n b N b' N' : Nat} {p : Pol} (h : Ok n b N p) (hb : b ≤ b') (hN : N ≤ N') : Ok n b' N' p :=
  ⟨h.asc, h.nz, h.len, fun e he x hx => ⟨(h.lo e he x hx).1, by have := (h.lo e he x hx).2; omega⟩, Nat.le_trans h.nm hN⟩
theorem Ok.nil (n b N : Nat) : Ok n b N [] := ⟨List.Pairwise.nil, by simp, by simp, by simp, by simp [norm]⟩
theorem S_congr {φ ψ : List Int → Int} : ∀ {p : Pol}, (∀ e ∈ p, φ e.1 = ψ e.1) → S φ p = S ψ p
  | [], _ => rfl
  | (k, c) :: r, h => by
    have h1 : φ k = ψ k := h (k, c) List.mem_cons_self
    simp only [S, h1, S_congr fun e he => h e (List.mem_cons_of_mem _ he)]
theorem S_zero {φ : List Int → Int} {p : Pol} (h : ∀ e ∈ p, φ e.1 = 0) : S φ p = 0 := by
  induction p with
  | nil => rfl
  | cons a r ih =>
    obtain ⟨k, c⟩ := a
    have h1 : φ k = 0 := h (k, c) List.mem_cons_self
    simp [S, h1, ih fun e he => h e (List.mem_cons_of_mem _ he)]
def ind (x : List Int) : List Int → Int := fun k => if k = x then 1 else 0
/-- ascending lists without factor 0 that no sum tells apart are the same -/
theorem ext_S : ∀ {p q : Pol}, Asc p → Asc q → (∀ e ∈ p, e.2 ≠ 0) → (∀ e ∈ q, e.2 ≠ 0) → (∀ φ, S φ p = S φ q) → p = q
  | [], [], _, _, _, _, _ => rfl
  | [], (k, c) :: q, _, hq, _, zq, h => by
    have h1 := h (ind k)
    have h2 : S (ind k) q = 0 := S_zero fun e he => if_neg fun z => lt_irr k (by have := (List.pairwise_cons.mp hq).1 e he; rw [z] at this; exact this)
    simp [S, h2, ind] at h1
    exact absurd h1.symm (zq _ List.mem_cons_self)
  | (k, c) :: p, [], hp, _, zp, _, h => by
    have h1 := h (ind k)
    have h2 : S (ind k) p = 0 := S_zero fun e he => if_neg fun z => lt_irr k (by have := (List.pairwise_cons.mp hp).1 e he; rw [z] at this; exact this)
    simp [S, h2, ind] at h1
    exact absurd h1 (zp _ List.mem_cons_self)
  | (k, c) :: p, (k', c') :: q, hp, hq, zp, zq, h => by
    obtain ⟨hp1, hp2⟩ := List.pairwise_cons.mp hp
    obtain ⟨hq1, hq2⟩ := List.pairwise_cons.mp hq
    rcases lt_or k k' with g | g | g
    · exfalso
      have h1 := h (ind k)
      have h2 : S (ind k) p = 0 := S_zero fun e he => if_neg fun z => lt_irr k (by have := hp1 e he; rw [z] at this; exact this)
      have h3 : S (ind k) ((k', c') :: q) = 0 := S_zero fun e he => if_neg fun z => by
        rcases List.mem_cons.mp he with rfl | he
        · exact lt_irr k (by rw [← z] at g ⊢; exact g)
        · have := lt_tr g (hq1 e he)
          rw [z] at this
          exact lt_irr k this
      rw [h3] at h1
      simp [S, h2, ind] at h1
      exact zp _ List.mem_cons_self h1
    · subst g
      have h1 := h (ind k)
      have h2 : S (ind k) p = 0 := S_zero fun e he => if_neg fun z => lt_irr k (by have := hp1 e he; rw [z] at this; exact this)
      have h3 : S (ind k) q = 0 := S_zero fun e he => if_neg fun z => lt_irr k (by have := hq1 e he; rw [z] at this; exact this)
      simp [S, h2, h3, ind] at h1
      subst h1
      rw [ext_S hp2 hq2 (fun e he => zp e (List.mem_cons_of_mem _ he)) (fun e he => zq e (List.mem_cons_of_mem _ he)) fun φ => by
        have := h φ
        simp only [S] at this
        omega]
    · exfalso
      have h1 := h (ind k')
      have h2 : S (ind k') q = 0 := S_zero fun e he => if_neg fun z => lt_irr k' (by have := hq1 e he; rw [z] at this; exact this)
      have h3 : S (ind k') ((k, c) :: p) = 0 := S_zero fun e he => if_neg fun z => by
        rcases List.mem_cons.mp he with rfl | he
        · exact lt_irr k' (by rw [← z] at g ⊢; exact g)
        · have := lt_tr g (hp1 e he)
          rw [z] at this
          exact lt_irr k' this
      rw [h3] at h1
      simp [S, h2, ind] at h1
      exact zq _ List.mem_cons_self h1.symm
theorem Ok.ext {n b N n' b' N' : Nat} {p q : Pol} (h : Ok n b N p) (g : Ok n' b' N' q) (e : ∀ φ, S φ p = S φ q) : p = q := ext_S h.asc g.asc h.nz g.nz e
/-! sums, differences, products -/
def addAll (d q : Pol) : Pol := q.foldl (fun d e => addP d e.1 e.2) d
def plusP (p q : Pol) : Pol := tidyP (addAll p q)
def negP (p : Pol) : Pol := p.map fun e => (e.1, -e.2)
def minusP (p q : Pol) : Pol := plusP p (negP q)
def zipAdd (a b : List Int) : List Int := List.zipWith (· + ·) a b
def mulRow (d : Pol) (e : List Int × Int) (q : Pol) : Pol := q.foldl (fun d e' => addP d (zipAdd e.1 e'.1) (e.2 * e'.2)) d
def mulAll (d p q : Pol) : Pol := p.foldl (fun d e => mulRow d e q) d
def timesP (p q : Pol) : Pol := tidyP (mulAll [] p q)
theorem S_addAll (φ : List Int → Int) : ∀ (q d : Pol), S φ (addAll d q) = S φ d + S φ q
  | [], d => by simp [addAll, S]
  | (k, c) :: q, d => by
    show S φ (addAll (addP d k c) q) = _
    rw [S_addAll φ q, S_addP]
    simp [S]; omega
theorem norm_addAll : ∀ (q d : Pol), norm (addAll d q) ≤ norm d + norm q
  | [], d => by simp [addAll, norm]
  | (k, c) :: q, d => by
    have h1 := norm_addAll q (addP d k c)
    have h2 := norm_addP k c d
    show norm (addAll (addP d k c) q) ≤ _
    simp [norm]; omega
theorem nodup_addAll : ∀ (q d : Pol), (d.map (·.1)).Nodup → ((addAll d q).map (·.1)).Nodup
  | [], _, h => h
  | (k, c) :: q, d, h => nodup_addAll q (addP d k c) (keys_putP h)
theorem keys_addAll {Q : List Int → Prop} : ∀ (q d : Pol), (∀ e ∈ d, Q e.1) → (∀ e ∈ q, Q e.1) → ∀ e ∈ addAll d q, Q e.1
  | [], _, h, _ => h
  | (k, c) :: q, d, h, g => keys_addAll q (addP d k c) (fun e he => by
      rcases mem_putP he with z | z
      · rw [z]; exact g (k, c) List.mem_cons_self
      · exact h e z) fun e he => g e (List.mem_cons_of_mem _ he)
theorem length_addAll : ∀ (q d : Pol), (addAll d q).length ≤ d.length + q.length
  | [], d => by simp [addAll]
  | (k, c) :: q, d => by
    have h1 := length_addAll q (addP d k c)
    have h2 : (addP d k c).length ≤ d.length + 1 := length_putP
    show (addAll (addP d k c) q).length ≤ _
    simp; omega
theorem S_mulRow (φ : List Int → Int) (a : List Int) (c : Int) : ∀ (q d : Pol), S φ (mulRow d (a, c) q) = S φ d + c * S (fun b => φ (zipAdd a b)) q
  | [], d => by simp [mulRow, S]
  | (k, c') :: q, d => by
    show S φ (mulRow (addP d (zipAdd a k) (c * c')) (a, c) q) = _
    rw [S_mulRow φ a c q, S_addP]
    simp [S, Int.mul_add, Int.mul_assoc]; omega
theorem S_mulAll (φ : List Int → Int) : ∀ (p d q : Pol), S φ (mulAll d p q) = S φ d + S (fun a => S (fun b => φ (zipAdd a b)) q) p
  | [], d, q => by simp [mulAll, S]
  | (a, c) :: p, d, q => by
    show S φ (mulAll (mulRow d (a, c) q) p q) = _
    rw [S_mulAll φ p, S_mulRow]
    simp [S]; omega
theorem norm_mulRow (a : List Int) (c : Int) : ∀ (q d : Pol), norm (mulRow d (a, c) q) ≤ norm d + c.natAbs * norm q
  | [], d => by simp [mulRow, norm]
  | (k, c') :: q, d => by
    have h1 := norm_mulRow a c q (addP d (zipAdd a k) (c * c'))
    have h2 := norm_addP (zipAdd a k) (c * c') d
    show norm (mulRow (addP d (zipAdd a k) (c * c')) (a, c) q) ≤ _
    rw [Int.natAbs_mul] at h2
    simp only [norm, Nat.mul_add]; omega
theorem norm_mulAll : ∀ (p d q : Pol), norm (mulAll d p q) ≤ norm d + norm p * norm q
  | [], d, q => by simp [mulAll, norm]
  | (a, c) :: p, d, q => by
    have h1 := norm_mulAll p (mulRow d (a, c) q) q
    have h2 := norm_mulRow a c q d
    show norm (mulAll (mulRow d (a, c) q) p q) ≤ _
    simp only [norm, Nat.add_mul]; omega
theorem nodup_mulRow (e : List Int × Int) : ∀ (q d : Pol), (d.map (·.1)).Nodup → ((mulRow d e q).map (·.1)).Nodup
  | [], _, h => h
  | (k, c) :: q, d, h => nodup_mulRow e q (addP d (zipAdd e.1 k) (e.2 * c)) (keys_putP h)
theorem nodup_mulAll : ∀ (p d q : Pol), (d.map (·.1)).Nodup → ((mulAll d p q).map (·.1)).Nodup
  | [], _, _, h => h
  | e :: p, d, q, h => nodup_mulAll p (mulRow d e q) q (nodup_mulRow e q d h)
theorem keys_mulRow {Q : List Int → Prop} (e : List Int × Int) : ∀ (q d : Pol), (∀ e ∈ d, Q e.1) → (∀ e' ∈ q, Q (zipAdd e.1 e'.1)) → ∀ e' ∈ mulRow d e q, Q e'.1
  | [], _, h, _ => h
  | (k, c) :: q, d, h, g => keys_mulRow e q (addP d (zipAdd e.1 k) (e.2 * c)) (fun e' he => by
      rcases mem_putP he with z | z
      · rw [z]; exact g (k, c) List.mem_cons_self
      · exact h e' z) fun e he => g e (List.mem_cons_of_mem _ he)
theorem keys_mulAll {Q : List Int → Prop} : ∀ (p d q : Pol), (∀ e ∈ d, Q e.1) → (∀ e ∈ p, ∀ e' ∈ q, Q (zipAdd e.1 e'.1)) → ∀ e ∈ mulAll d p q, Q e.1
  | [], _, _, h, _ => h
  | e :: p, d, q, h, g => keys_mulAll p (mulRow d e q) q (keys_mulRow e q d h fun e' he => g e List.mem_cons_self e' he) fun a ha => g a (List.mem_cons_of_mem _ ha)
theorem length_mulRow (e : List Int × Int) : ∀ (q d : Pol), (mulRow d e q).length ≤ d.length + q.length
  | [], d => by simp [mulRow]
  | (k, c) :: q, d => by
    have h1 := length_mulRow e q (addP d (zipAdd e.1 k) (e.2 * c))
    have h2 : (addP d (zipAdd e.1 k) (e.2 * c)).length ≤ d.length + 1 := length_putP
    show (mulRow (addP d (zipAdd e.1 k) (e.2 * c)) e q).length ≤ _
    simp; omega
theorem S_neg (φ : List Int → Int) : ∀ p : Pol, S φ (negP p) = - S φ p
  | [] => rfl
  | (k, c) :: r => by
    show -c * φ k + S φ (negP r) = -(c * φ k + S φ r)
    rw [S_neg φ r, Int.neg_mul]; omega
theorem norm_neg : ∀ p : Pol, norm (negP p) = norm p
  | [] => rfl
  | (k, c) :: r => by
    show (-c).natAbs + norm (negP r) = c.natAbs + norm r
    rw [norm_neg r]; omega
theorem neg_neg (p : Pol) : negP (negP p) = p := by
  unfold negP
  rw [List.map_map]
  conv => rhs; rw [← List.map_id p]
  congr 1
  funext e
  simp
theorem Ok.neg {n b N : Nat} {p : Pol} (h : Ok n b N p) : Ok n b N (negP p) := by
  refine ⟨List.pairwise_map.mpr (h.asc.imp fun {a b} q => q), ?_, ?_, ?_, by rw [norm_neg]; exact h.nm⟩
  all_goals
    intro e he
    obtain ⟨a, ha, rfl⟩ := List.mem_map.mp he
  · have := h.nz a ha
    show -a.2 ≠ 0
    omega
  · exact h.len a ha
  · exact h.lo a ha
theorem S_plus (φ : List Int → Int) (p q : Pol) : S φ (plusP p q) = S φ p + S φ q := (S_tidy _ _).trans (S_addAll _ _ _)
theorem S_minus (φ : List Int → Int) (p q : Pol) : S φ (minusP p q) = S φ p - S φ q := by
  unfold minusP
  rw [S_plus, S_neg]; omega
theorem S_times (φ : List Int → Int) (p q : Pol) : S φ (timesP p q) = S (fun a => S (fun b => φ (zipAdd a b)) q) p := by
  refine (S_tidy _ _).trans ?_
  rw [S_mulAll]
  simp [S]
theorem Ok.plus {n b N M : Nat} {p q : Pol} (h : Ok n b N p) (g : Ok n b M q) : Ok n b (N + M) (plusP p q) := by
  have hk := keys_addAll (Q := fun k => k.length = n ∧ ∀ x ∈ k, 0 ≤ x ∧ x ≤ (b : Int)) q p (fun e he => ⟨h.len e he, h.lo e he⟩) (fun e he => ⟨g.len e he, g.lo e he⟩)
  refine ⟨asc_tidy (nodup_addAll _ _ h.asc.nodup), fun e he => (mem_tidy.mp he).2, fun e he => (hk e (mem_tidy.mp he).1).1, fun e he => (hk e (mem_tidy.mp he).1).2, ?_⟩
  have h1 := norm_tidy (addAll p q)
  have h2 := norm_addAll q p
  have h3 := h.nm
  have h4 := g.nm
  show norm (tidyP (addAll p q)) ≤ N + M
  omega
theorem Ok.minus {n b N M : Nat} {p q : Pol} (h : Ok n b N p) (g : Ok n b M q) : Ok n b (N + M) (minusP p q) := h.plus g.neg
theorem mem_zipAdd : ∀ {a b : List Int} {x : Int}, x ∈ zipAdd a b → ∃ y ∈ a, ∃ z ∈ b, x = y + z
  | [], _, x, h => by simp [zipAdd] at h
  | _ :: _, [], x, h => by simp [zipAdd] at h
  | y :: a, z :: b, x, h => by
    rw [show zipAdd (y :: a) (z :: b) = (y + z) :: zipAdd a b from rfl] at h
    rcases List.mem_cons.mp h with h | h
    · exact ⟨y, List.mem_cons_self, z, List.mem_cons_self, h⟩
    · obtain ⟨y', hy, z', hz, e⟩ := mem_zipAdd h
      exact ⟨y', List.mem_cons_of_mem _ hy, z', List.mem_cons_of_mem _ hz, e⟩
theorem Ok.times {n b b' N M : Nat} {p q : Pol} (h : Ok n b N p) (g : Ok n b' M q) : Ok n (b + b') (N * M) (timesP p q) := by
  have hk := keys_mulAll (Q := fun k => k.length = n ∧ ∀ x ∈ k, 0 ≤ x ∧ x ≤ ((b + b' : Nat) : Int)) p [] q (by simp) fun e he e' he' => ⟨by simp [zipAdd, h.len e he, g.len e' he'], fun x hx => by
    obtain ⟨y, hy, z, hz, rfl⟩ := mem_zipAdd hx
    have h1 := h.lo e he y hy
    have h2 := g.lo e' he' z hz
    omega⟩
  refine ⟨asc_tidy (nodup_mulAll _ _ _ (by simp)), fun e he => (mem_tidy.mp he).2, fun e he => (hk e (mem_tidy.mp he).1).1, fun e he => (hk e (mem_tidy.mp he).1).2, ?_⟩
  have h1 := norm_tidy (mulAll [] p q)
  have h2 := norm_mulAll p [] q
  have h3 : norm p * norm q ≤ N * M := Nat.mul_le_mul h.nm g.nm
  have h4 : norm [] = 0 := rfl
  show norm (tidyP (mulAll [] p q)) ≤ N * M
  omega
theorem Ok.size {n b N : Nat} {p : Pol} (h : Ok n b N p) : p.length ≤ N := by
  refine Nat.le_trans ?_ h.nm
  have z := h.nz
  clear h
  induction p with
  | nil => simp [norm]
  | cons a r ih =>
    obtain ⟨k, c⟩ := a
    have h1 : c ≠ 0 := z (k, c) List.mem_cons_self
    have h2 := ih fun e he => z e (List.mem_cons_of_mem _ he)
    simp [norm]; omega
theorem norm_mem : ∀ {p : Pol} {e : List Int × Int}, e ∈ p → e.2.natAbs ≤ norm p
  | (k, c) :: r, e, h => by
    rcases List.mem_cons.mp h with rfl | h
    · simp [norm]
    · have := norm_mem h
      simp [norm]; omega
/-! numbers and counts -/
def zeros (n : Nat) : List Int := List.replicate n 0
def numP (n : Nat) (c : Int) : Pol := tidyP [(zeros n, c)]
def unitK (n i : Nat) : List Int := zeros i ++ [1] ++ zeros (n - i - 1)
def cntP (n i : Nat) : Pol := [(unitK n i, 1)]
theorem S_num (φ : List Int → Int) (n : Nat) (c : Int) : S φ (numP n c) = c * φ (zeros n) := by
  unfold numP
  rw [S_tidy]
  simp [S]
theorem S_cnt (φ : List Int → Int) (n i : Nat) : S φ (cntP n i) = φ (unitK n i) := by simp [cntP, S]
theorem numP_zero (n : Nat) : numP n 0 = [] := by simp [numP, tidyP]
theorem numP_ne {n : Nat} {c : Int} (h : c ≠ 0) : numP n c = [(zeros n, c)] := by simp [numP, tidyP, h]
theorem Ok.num (n b : Nat) (c : Int) : Ok n b c.natAbs (numP n c) := by
  by_cases h : c = 0
  · subst h
    rw [numP_zero]
    exact Ok.nil _ _ _
  · rw [numP_ne h]
    refine ⟨List.pairwise_singleton _ _, ?_, ?_, ?_, by simp [norm]⟩
    all_goals
      intro e he
      rw [List.mem_singleton] at he
      subst he
    · exact h
    · simp [zeros]
    · intro x hx
      have := List.eq_of_mem_replicate hx
      omega
theorem length_unitK {n i : Nat} (h : i < n) : (unitK n i).length = n := by simp [unitK, zeros]; omega
theorem Ok.cnt {n i : Nat} (h : i < n) : Ok n 1 1 (cntP n i) := by
  refine ⟨List.pairwise_singleton _ _, ?_, ?_, ?_, by simp [norm, cntP]⟩
  all_goals
    intro e he
    rw [show cntP n i = [(unitK n i, 1)] from rfl, List.mem_singleton] at he
    subst he
  · simp
  · exact length_unitK h
  · intro x hx
    simp [unitK, zeros] at hx
    omega
theorem zipAdd_zeros {n : Nat} : ∀ {a : List Int}, a.length = n → zipAdd a (zeros n) = a := by
  induction n with
  | zero => intro a h; rw [List.length_eq_zero_iff.mp h]; rfl
  | succ n ih =>
    intro a h
    match a, h with
    | x :: a, h =>
      show (x + 0) :: zipAdd a (zeros n) = x :: a
      rw [ih (by simpa using h)]
      simp
theorem zipAdd_comm (a b : List Int) : zipAdd a b = zipAdd b a := by
  unfold zipAdd
  rw [List.zipWith_comm]
  congr 1
  funext x y
  omega
theorem zeros_zipAdd {n : Nat} {a : List Int} (h : a.length = n) : zipAdd (zeros n) a = a := by rw [zipAdd_comm, zipAdd_zeros h]
end K64
namespace K64
/-! ### values at counts -/
def mono : List Int → List Int → Int
  | c :: cs, p :: ps => c ^ p.toNat * mono cs ps
  | _, _ => 1
def evalP (cs : List Int) (p : Pol) : Int := S (mono cs) p
theorem mono_nil (cs : List Int) : mono cs [] = 1 := by cases cs <;> rfl
theorem mono_zipAdd : ∀ (cs : List Int) {a b : List Int}, a.length = b.length → (∀ x ∈ a, 0 ≤ x) → (∀ x ∈ b, 0 ≤ x) → mono cs (zipAdd a b) = mono cs a * mono cs b
  | [], a, b, _, _, _ => by simp [mono]
  | c :: cs, [], b, h, _, _ => by
    have : b = [] := List.length_eq_zero_iff.mp (by simpa using h.symm)
    subst this
    simp [mono, zipAdd]
  | c :: cs, x :: a, [], h, _, _ => by simp at h
  | c :: cs, x :: a, y :: b, h, ha, hb => by
    have ih := mono_zipAdd cs (a := a) (b := b) (by simpa using h) (fun z hz => ha z (List.mem_cons_of_mem _ hz)) (fun z hz => hb z (List.mem_cons_of_mem _ hz))
    have hx := ha x List.mem_cons_self
    have hy := hb y List.mem_cons_self
    show c ^ (x + y).toNat * mono cs (zipAdd a b) = c ^ x.toNat * mono cs a * (c ^ y.toNat * mono cs b)
    rw [ih, Int.toNat_add hx hy, Int.pow_add]
    simp only [Int.mul_assoc, Int.mul_left_comm]
theorem mono_zeros : ∀ (n : Nat) (cs : List Int), mono cs (zeros n) = 1
  | 0, cs => mono_nil cs
  | n + 1, [] => rfl
  | n + 1, c :: cs => by
    show c ^ (0 : Int).toNat * mono cs (zeros n) = 1
    rw [mono_zeros n cs]; simp
theorem mono_take_succ : ∀ {cs ps : List Int} {i : Nat} {c p : Int}, cs[i]? = some c → ps[i]? = some p → mono (cs.take (i + 1)) (ps.take (i + 1)) = mono (cs.take i) (ps.take i) * c ^ p.toNat
  | [], _, _, _, _, h, _ => by simp at h
  | _ :: _, [], _, _, _, _, h => by simp at h
  | c' :: cs, p' :: ps, 0, c, p, h, g => by
    simp at h g
    subst h g
    simp [mono]
  | c' :: cs, p' :: ps, i + 1, c, p, h, g => by
    have ih := mono_take_succ (cs := cs) (ps := ps) (i := i) (c := c) (p := p) (by simpa using h) (by simpa using g)
    show c' ^ p'.toNat * mono (cs.take (i + 1)) (ps.take (i + 1)) = c' ^ p'.toNat * mono (cs.take i) (ps.take i) * c ^ p.toNat
    rw [ih, Int.mul_assoc]
theorem S_take_succ (φ : List Int → Int) : ∀ {p : Pol} {i : Nat} {k : List Int} {c : Int}, p[i]? = some (k, c) → S φ (p.take (i + 1)) = S φ (p.take i) + c * φ k
  | [], _, _, _, h => by simp at h
  | (k', c') :: p, 0, k, c, h => by
    simp at h
    obtain ⟨rfl, rfl⟩ := h
    simp [S]
  | (k', c') :: p, i + 1, k, c, h => by
    have ih := S_take_succ φ (p := p) (i := i) (k := k) (c := c) (by simpa using h)
    show c' * φ k' + S φ (p.take (i + 1)) = c' * φ k' + S φ (p.take i) + c * φ k
    rw [ih]; omega
theorem S_mulL (x : Int) (φ : List Int → Int) : ∀ p : Pol, S (fun k => x * φ k) p = x * S φ p
  | [] => by simp [S]
  | (k, c) :: r => by
    show c * (x * φ k) + S (fun k => x * φ k) r = x * (c * φ k + S φ r)
    rw [S_mulL x φ r, Int.mul_add, Int.mul_left_comm]
theorem S_mulR (x : Int) (φ : List Int → Int) (p : Pol) : S (fun k => φ k * x) p = S φ p * x := by
  rw [Int.mul_comm, ← S_mulL]
  congr 1
  funext k
  exact Int.mul_comm _ _
theorem S_add (φ ψ : List Int → Int) : ∀ p : Pol, S (fun k => φ k + ψ k) p = S φ p + S ψ p
  | [] => rfl
  | (k, c) :: r => by
    show c * (φ k + ψ k) + S (fun k => φ k + ψ k) r = c * φ k + S φ r + (c * ψ k + S ψ r)
    rw [S_add φ ψ r, Int.mul_add]; omega
theorem eval_plus (cs : List Int) (p q : Pol) : evalP cs (plusP p q) = evalP cs p + evalP cs q := S_plus _ _ _
theorem eval_minus (cs : List Int) (p q : Pol) : evalP cs (minusP p q) = evalP cs p - evalP cs q := S_minus _ _ _
theorem eval_neg (cs : List Int) (p : Pol) : evalP cs (negP p) = - evalP cs p := S_neg _ _
theorem eval_times {n b b' N M : Nat} {p q : Pol} (cs : List Int) (h : Ok n b N p) (g : Ok n b' M q) : evalP cs (timesP p q) = evalP cs p * evalP cs q := by
  unfold evalP
  rw [S_times, ← S_mulR]
  refine S_congr fun e he => ?_
  rw [← S_mulL]
  refine S_congr fun e' he' => ?_
  exact mono_zipAdd cs (by rw [h.len e he, g.len e' he']) (fun x hx => (h.lo e he x hx).1) (fun x hx => (g.lo e' he' x hx).1)
theorem eval_num (cs : List Int) (n : Nat) (c : Int) : evalP cs (numP n c) = c := by
  unfold evalP
  rw [S_num, mono_zeros, Int.mul_one]
theorem mono_unitK : ∀ {cs : List Int} {n i : Nat} {c : Int}, i < n → cs[i]? = some c → mono cs (unitK n i) = c
  | [], _, _, _, _, h => by simp at h
  | c' :: cs, 0, _, _, h, _ => absurd h (Nat.not_lt_zero _)
  | c' :: cs, n + 1, 0, c, _, h => by
    simp at h
    subst h
    show c' ^ (1 : Int).toNat * mono cs (zeros _) = c'
    rw [mono_zeros, Int.mul_one]
    exact Int.pow_one c'
  | c' :: cs, n + 1, i + 1, c, hi, h => by
    have ih := mono_unitK (cs := cs) (n := n) (i := i) (c := c) (by omega) (by simpa using h)
    have e : unitK (n + 1) (i + 1) = 0 :: unitK n i := by
      unfold unitK zeros
      rw [List.replicate_succ]
      have : n + 1 - (i + 1) - 1 = n - i - 1 := by omega
      rw [this]
      rfl
    rw [e]
    show c' ^ (0 : Int).toNat * mono cs (unitK n i) = c
    rw [ih]
    simp
/-! ### falling products -/
def fallStep (n i back : Nat) (f : Pol) : Pol := timesP f (minusP (cntP n i) (numP n back))
def fallRow (n i : Nat) : Nat → Pol → Pol
  | 0, f => f
  | m + 1, f => fallStep n i m (fallRow n i m f)
def fallAll (n : Nat) (taken : List Int) : Nat → Pol
  | 0 => numP n 1
  | i + 1 => fallRow n i (taken.getD i 0).toNat (fallAll n taken i)
def fallP (taken : List Int) : Pol := fallAll taken.length taken taken.length
def weightP (taken : List Int) (rate : Int) : Pol := timesP (numP taken.length rate) (fallP taken)
theorem Ok.fstep {n i back b N : Nat} {f : Pol} (h : Ok n b N f) (hi : i < n) : Ok n (b + 1) (N * (1 + back)) (fallStep n i back f) := by
  have h1 : Ok n 1 (1 + (back : Int).natAbs) (minusP (cntP n i) (numP n back)) := (Ok.cnt hi).minus (Ok.num n 1 back)
  have e : (back : Int).natAbs = back := by omega
  rw [e] at h1
  exact h.times h1
theorem Ok.frow {n i b N : Nat} {f : Pol} (h : Ok n b N f) (hi : i < n) {m : Nat} (hm : m ≤ 2) : Ok n (b + 2) (2 * N) (fallRow n i m f) := by
  match m, hm with
  | 0, _ => exact h.mono (by omega) (by omega)
  | 1, _ => exact (h.fstep (back := 0) hi).mono (by omega) (by omega)
  | 2, _ => exact ((h.fstep (back := 0) hi).fstep (back := 1) hi).mono (by omega) (by omega)
theorem small_getD {taken : List Int} (ht : ∀ x ∈ taken, 0 ≤ x ∧ x ≤ 2) (i : Nat) : (taken.getD i 0).toNat ≤ 2 := by
  rw [List.getD_eq_getElem?_getD]
  cases e : taken[i]? with
  | none => simp
  | some x =>
    have := ht x (List.mem_of_getElem? e)
    simp
    omega
theorem Ok.fall {n : Nat} {taken : List Int} (ht : ∀ x ∈ taken, 0 ≤ x ∧ x ≤ 2) : ∀ {i : Nat}, i ≤ n → Ok n (2 * i) (2 ^ i) (fallAll n taken i)
  | 0, _ => (Ok.num n 0 1).mono (by omega) (by decide)
  | i + 1, hi => (Ok.frow (Ok.fall ht (by omega : i ≤ n)) hi (small_getD ht i)).mono (by omega) (by rw [Nat.pow_succ]; omega)
theorem Ok.fallP {taken : List Int} (ht : ∀ x ∈ taken, 0 ≤ x ∧ x ≤ 2) : Ok taken.length (2 * taken.length) (2 ^ taken.length) (fallP taken) := Ok.fall ht (Nat.le_refl _)
theorem Ok.weight {taken : List Int} {rate : Int} (ht : ∀ x ∈ taken, 0 ≤ x ∧ x ≤ 2) : Ok taken.length (2 * taken.length) (rate.natAbs * 2 ^ taken.length) (weightP taken rate) :=
  ((Ok.num taken.length 0 rate).times (Ok.fallP ht)).mono (by omega) (Nat.le_refl _)
/-- count (count - 1) .. : m factors -/
def fallN (c : Int) : Nat → Int
  | 0 => 1
  | m + 1 => fallN c m * (c - m)
def fallPre (cs taken : List Int) : Nat → Int
  | 0 => 1
  | i + 1 => fallPre cs taken i * fallN (cs.getD i 0) (taken.getD i 0).toNat
theorem eval_fstep {n i back b N : Nat} {f : Pol} {cs : List Int} {c : Int} (h : Ok n b N f) (hi : i < n) (hc : cs[i]? = some c) : evalP cs (fallStep n i back f) = evalP cs f * (c - back) := by
  unfold fallStep
  rw [eval_times cs h ((Ok.cnt hi).minus (Ok.num n 1 back)), eval_minus, eval_num]
  congr 2
  unfold evalP
  rw [S_cnt, mono_unitK hi hc]
theorem eval_frow {n i b N : Nat} {f : Pol} {cs : List Int} {c : Int} (h : Ok n b N f) (hi : i < n) (hc : cs[i]? = some c) : ∀ m, (∃ b' N', Ok n b' N' (fallRow n i m f)) ∧ evalP cs (fallRow n i m f) = evalP cs f * fallN c m
  | 0 => ⟨⟨b, N, h⟩, by simp [fallRow, fallN]⟩
  | m + 1 => by
    obtain ⟨⟨b', N', h'⟩, e⟩ := eval_frow h hi hc m
    refine ⟨⟨_, _, h'.fstep hi⟩, ?_⟩
    show evalP cs (fallStep n i m (fallRow n i m f)) = _
    rw [eval_fstep h' hi hc, e, fallN, Int.mul_assoc]
theorem eval_fall {n : Nat} {cs taken : List Int} (ht : ∀ x ∈ taken, 0 ≤ x ∧ x ≤ 2) (hc : cs.length = n) : ∀ {i : Nat}, i ≤ n → evalP cs (fallAll n taken i) = fallPre cs taken i
  | 0, _ => eval_num _ _ _
  | i + 1, hi => by
    have hl : i < cs.length := by omega
    have e : cs[i]? = some (cs.getD i 0) := by
      rw [List.getD_eq_getElem?_getD, List.getElem?_eq_getElem hl]
      rfl
    show evalP cs (fallRow n i (taken.getD i 0).toNat (fallAll n taken i)) = fallPre cs taken i * fallN (cs.getD i 0) (taken.getD i 0).toNat
    rw [(eval_frow (Ok.fall ht (by omega : i ≤ n)) hi e _).2, eval_fall ht hc (by omega)]
theorem eval_weight {cs taken : List Int} {rate : Int} (ht : ∀ x ∈ taken, 0 ≤ x ∧ x ≤ 2) (hc : cs.length = taken.length) : evalP cs (weightP taken rate) = rate * fallPre cs taken taken.length := by
  unfold weightP fallP
  rw [eval_times cs (Ok.num taken.length 0 rate) (Ok.fall ht (Nat.le_refl _)), eval_num, eval_fall ht hc (Nat.le_refl _)]
/-- the law's own weight: rate times max(count - k, 0) .. -/
def wRow (rate c : Int) : Nat → Int
  | 0 => rate
  | m + 1 => wRow rate c m * (if 0 > c - m then 0 else c - m)
def wPre (rate : Int) (cs taken : List Int) : Nat → Int
  | 0 => rate
  | i + 1 => wRow (wPre rate cs taken i) (cs.getD i 0) (taken.getD i 0).toNat
theorem fallN_zero {c : Int} (h0 : 0 ≤ c) : ∀ {m : Nat}, c < m → fallN c m = 0
  | 0, h => by omega
  | m + 1, h => by
    show fallN c m * (c - m) = 0
    by_cases e : c = m
    · rw [e]; simp
    · rw [fallN_zero h0 (by omega)]; simp
theorem wRow_eq {rate c : Int} (h0 : 0 ≤ c) : ∀ m, wRow rate c m = rate * fallN c m
  | 0 => by simp [wRow, fallN]
  | m + 1 => by
    show wRow rate c m * _ = rate * (fallN c m * (c - m))
    rw [wRow_eq h0 m]
    split
    · have h : fallN c m = 0 := fallN_zero h0 (by omega)
      rw [h]; simp
    · rw [Int.mul_assoc]
theorem wPre_eq {rate : Int} {cs taken : List Int} (h0 : ∀ x ∈ cs, 0 ≤ x) : ∀ i, wPre rate cs taken i = rate * fallPre cs taken i
  | 0 => by simp [wPre, fallPre]
  | i + 1 => by
    have h : 0 ≤ cs.getD i 0 := by
      rw [List.getD_eq_getElem?_getD]
      cases e : cs[i]? with
      | none => simp
      | some x => exact h0 x (List.mem_of_getElem? e)
    show wRow (wPre rate cs taken i) (cs.getD i 0) (taken.getD i 0).toNat = rate * (fallPre cs taken i * fallN (cs.getD i 0) (taken.getD i 0).toNat)
    rw [wRow_eq h, wPre_eq h0 i, Int.mul_assoc]
/-! ### the leading term -/
def Lead (p : Pol) (L : List Int) (r : Int) : Prop := ∀ φ : List Int → Int, (∀ k, k.length = L.length → k.sum < L.sum → φ k = 0) → S φ p = r * φ L
theorem sum_zeros (n : Nat) : (zeros n).sum = 0 := by simp [zeros]
theorem sum_zipAdd : ∀ {a b : List Int}, a.length = b.length → (zipAdd a b).sum = a.sum + b.sum
  | [], [], _ => rfl
  | [], _ :: _, h => by simp at h
  | _ :: _, [], h => by simp at h
  | x :: a, y :: b, h => by
    show (x + y) + (zipAdd a b).sum = x + a.sum + (y + b.sum)
    rw [sum_zipAdd (by simpa using h)]; omega
theorem sum_unitK (n i : Nat) : (unitK n i).sum = 1 := by
  unfold unitK
  rw [List.sum_append, List.sum_append, sum_zeros, sum_zeros]
  rfl
theorem length_zipAdd {a b : List Int} (h : a.length = b.length) : (zipAdd a b).length = a.length := by simp [zipAdd, h]
theorem Lead.num (n : Nat) (c : Int) : Lead (numP n c) (zeros n) c := fun φ _ => S_num φ n c
theorem Lead.fstep {n i back : Nat} {f : Pol} {L : List Int} {r : Int} (h : Lead f L r) (hL : L.length = n) (hi : i < n) : Lead (fallStep n i back f) (zipAdd L (unitK n i)) r := by
  intro φ hφ
  have hu := length_unitK hi
  have e1 : (zipAdd L (unitK n i)).sum = L.sum + 1 := by rw [sum_zipAdd (by rw [hL, hu]), sum_unitK]
  have e2 : (zipAdd L (unitK n i)).length = n := by rw [length_zipAdd (by rw [hL, hu]), hL]
  unfold fallStep
  rw [S_times]
  have e3 : (fun a => S (fun b => φ (zipAdd a b)) (minusP (cntP n i) (numP n (back : Int)))) = fun a => φ (zipAdd a (unitK n i)) - back * φ (zipAdd a (zeros n)) := by
    funext a
    rw [S_minus, S_cnt, S_num]
  rw [e3]
  rw [h _ fun k hk hs => ?_]
  · congr 1
    have e4 : φ (zipAdd L (zeros n)) = 0 := by
      rw [zipAdd_zeros hL]
      exact hφ L (by rw [e2, hL]) (by rw [e1]; omega)
    rw [e4]; simp
  · rw [hL] at hk
    have g1 : φ (zipAdd k (unitK n i)) = 0 := hφ _ (by rw [e2, length_zipAdd (by rw [hk, hu]), hk]) (by rw [e1, sum_zipAdd (by rw [hk, hu]), sum_unitK]; omega)
    have g2 : φ (zipAdd k (zeros n)) = 0 := by
      rw [zipAdd_zeros hk]
      exact hφ k (by rw [e2, hk]) (by rw [e1]; omega)
    show φ (zipAdd k (unitK n i)) - back * φ (zipAdd k (zeros n)) = 0
    rw [g1, g2]; simp
/-- the powers taken so far: pots before i whole, m of pot i -/
def upTo (n : Nat) (taken : List Int) (i m : Nat) : List Int := taken.take i ++ (m : Int) :: zeros (n - i - 1)
theorem length_upTo {n : Nat} {taken : List Int} {i m : Nat} (ht : taken.length = n) (hi : i < n) : (upTo n taken i m).length = n := by simp [upTo, zeros]; omega
theorem upTo_succ {n : Nat} {taken : List Int} {i m : Nat} (ht : taken.length = n) (hi : i < n) : zipAdd (upTo n taken i m) (unitK n i) = upTo n taken i (m + 1) := by
  have hl : (taken.take i).length = (zeros i).length := by simp [zeros]; omega
  unfold upTo unitK
  rw [List.append_assoc, show zipAdd = List.zipWith (· + ·) from rfl, List.zipWith_append hl]
  have e1 : List.zipWith (· + ·) (taken.take i) (zeros i) = taken.take i := zipAdd_zeros (by simp; omega)
  rw [e1]
  congr 1
  show ((m : Int) + 1) :: zipAdd (zeros (n - i - 1)) (zeros (n - i - 1)) = _
  rw [zipAdd_zeros (by simp [zeros])]
  rfl
theorem Lead.frow {n i : Nat} {f : Pol} {taken : List Int} {r : Int} (h : Lead f (upTo n taken i 0) r) (ht : taken.length = n) (hi : i < n) : ∀ m, Lead (fallRow n i m f) (upTo n taken i m) r
  | 0 => h
  | m + 1 => by
    rw [← upTo_succ ht hi]
    exact (Lead.frow h ht hi m).fstep (length_upTo ht hi) hi
theorem zeros_succ {m : Nat} (h : 0 < m) : zeros m = 0 :: zeros (m - 1) := by
  match m, h with
  | m + 1, _ => rfl
theorem upTo_zero {n i : Nat} {taken : List Int} (hi : i < n) : upTo n taken i 0 = taken.take i ++ zeros (n - i) := by
  unfold upTo
  rw [zeros_succ (by omega : 0 < n - i)]
  rfl
theorem Lead.fall {n : Nat} {taken : List Int} (ht : taken.length = n) (h0 : ∀ x ∈ taken, 0 ≤ x ∧ x ≤ 2) : ∀ {i : Nat}, i ≤ n → Lead (fallAll n taken i) (taken.take i ++ zeros (n - i)) 1
  | 0, _ => by
    show Lead (numP n 1) (taken.take 0 ++ zeros (n - 0)) 1
    exact Lead.num n 1
  | i + 1, hi => by
    have ih := Lead.fall ht h0 (by omega : i ≤ n)
    rw [← upTo_zero (by omega)] at ih
    have h1 := Lead.frow ih ht (by omega) (taken.getD i 0).toNat
    have hl : i < taken.length := by omega
    have e : upTo n taken i (taken.getD i 0).toNat = taken.take (i + 1) ++ zeros (n - (i + 1)) := by
      have e1 : taken.getD i 0 = taken[i] := by rw [List.getD_eq_getElem?_getD, List.getElem?_eq_getElem hl]; rfl
      have e2 := (h0 taken[i] (List.getElem_mem hl)).1
      have e3 : ((taken[i].toNat : Nat) : Int) = taken[i] := Int.toNat_of_nonneg e2
      unfold upTo
      rw [e1, e3, List.take_succ_eq_append_getElem hl, List.append_assoc]
      rfl
    rw [e] at h1
    exact h1
theorem Lead.fallP {taken : List Int} (h0 : ∀ x ∈ taken, 0 ≤ x ∧ x ≤ 2) : Lead (fallP taken) taken 1 := by
  have h := Lead.fall (n := taken.length) rfl h0 (Nat.le_refl _)
  rw [List.take_length, Nat.sub_self, show zeros 0 = [] from rfl, List.append_nil] at h
  exact h
theorem S_timesNum (φ : List Int → Int) {n b N : Nat} {f : Pol} (h : Ok n b N f) (c : Int) : S φ (timesP (numP n c) f) = c * S φ f := by
  rw [S_times, S_num]
  congr 1
  exact S_congr fun e he => by rw [zeros_zipAdd (h.len e he)]
theorem S_timesNumR (φ : List Int → Int) {n b N : Nat} {f : Pol} (h : Ok n b N f) (c : Int) : S φ (timesP f (numP n c)) = c * S φ f := by
  rw [S_times, ← S_mulL]
  refine S_congr fun e he => ?_
  rw [S_num, zipAdd_zeros (h.len e he)]
theorem Lead.weight {taken : List Int} {rate : Int} (h0 : ∀ x ∈ taken, 0 ≤ x ∧ x ≤ 2) : Lead (weightP taken rate) taken rate := by
  intro φ hφ
  unfold weightP
  rw [S_timesNum φ (Ok.fallP h0), Lead.fallP h0 φ hφ, Int.one_mul]
theorem Lead.neg {p : Pol} {L : List Int} {r : Int} (h : Lead p L r) : Lead (negP p) L (-r) := fun φ hφ => by rw [S_neg, h φ hφ, Int.neg_mul]
theorem Lead.plusNum {p : Pol} {L : List Int} {r : Int} (h : Lead p L r) (hs : 0 < L.sum) (c : Int) : Lead (plusP p (numP L.length c)) L r := fun φ hφ => by
  rw [S_plus, S_num, h φ hφ, hφ (zeros L.length) (by simp [zeros]) (by rw [sum_zeros]; exact hs)]
  simp
theorem Lead.plusNum0 {p : Pol} {n : Nat} {r : Int} (h : Lead p (zeros n) r) (c : Int) : Lead (plusP p (numP n c)) (zeros n) (r + c) := fun φ hφ => by
  rw [S_plus, S_num, h φ hφ, Int.add_mul]
theorem zeros_of_sum : ∀ {L : List Int}, (∀ x ∈ L, 0 ≤ x) → L.sum = 0 → L = zeros L.length
  | [], _, _ => rfl
  | x :: L, h, e => by
    have hx := h x List.mem_cons_self
    have hL : 0 ≤ L.sum := by
      have : ∀ l : List Int, (∀ x ∈ l, 0 ≤ x) → 0 ≤ l.sum := by
        intro l
        induction l with
        | nil => intro _; simp
        | cons a l ih => intro q; have := ih (fun x hx => q x (List.mem_cons_of_mem _ hx)); have := q a List.mem_cons_self; simp; omega
      exact this L fun y hy => h y (List.mem_cons_of_mem _ hy)
    simp at e
    have h1 : x = 0 := by omega
    have h2 : L.sum = 0 := by omega
    have ih := zeros_of_sum (fun y hy => h y (List.mem_cons_of_mem _ hy)) h2
    show x :: L = 0 :: zeros L.length
    rw [h1, ← ih]
theorem S_ind_mem : ∀ {p : Pol} {k : List Int} {c : Int}, Asc p → (k, c) ∈ p → S (ind k) p = c
  | (k', c') :: p, k, c, ha, hm => by
    obtain ⟨h1, h2⟩ := List.pairwise_cons.mp ha
    rcases List.mem_cons.mp hm with e | hm
    · obtain ⟨rfl, rfl⟩ := Prod.mk.inj e
      have h3 : S (ind k) p = 0 := S_zero fun e he => if_neg fun z => lt_irr k (by have := h1 e he; rw [z] at this; exact this)
      simp [S, h3, ind]
    · have hne : ind k k' = 0 := if_neg fun z => lt_irr k (by have := h1 _ hm; rw [z] at this; exact this)
      show c' * ind k k' + S (ind k) p = c
      rw [hne, S_ind_mem h2 hm]; omega
theorem mem_of_S_ind {p : Pol} {k : List Int} (h : S (ind k) p ≠ 0) : ∃ c, (k, c) ∈ p := by
  by_cases q : ∃ c, (k, c) ∈ p
  · exact q
  · exact absurd (S_zero fun e he => if_neg fun z => q ⟨e.2, by rw [← z]; exact he⟩) h
theorem Lead.mem {p : Pol} {L : List Int} {r : Int} (h : Lead p L r) (ha : Asc p) (hr : r ≠ 0) : (L, r) ∈ p := by
  have e : S (ind L) p = r := by
    rw [h (ind L) fun k _ hs => if_neg fun z => by rw [z] at hs; omega]
    simp [ind]
  obtain ⟨c, hc⟩ := mem_of_S_ind (by rw [e]; exact hr)
  have e2 := S_ind_mem ha hc
  rw [e] at e2
  rw [e2]
  exact hc
theorem Lead.lt {p : Pol} {L : List Int} {r : Int} (h : Lead p L r) (ha : Asc p) (hz : ∀ e ∈ p, e.2 ≠ 0) {e : List Int × Int} (he : e ∈ p) (hl : e.1.length = L.length) (hne : e.1 ≠ L) : e.1.sum < L.sum := by
  by_cases q : e.1.sum < L.sum
  · exact q
  · exfalso
    have e1 : S (ind e.1) p = e.2 := S_ind_mem ha he
    have e2 : S (ind e.1) p = r * ind e.1 L := h (ind e.1) fun k _ hs => if_neg fun z => q (by rw [← z]; exact hs)
    have e3 : ind e.1 L = 0 := if_neg fun z => hne z.symm
    rw [e1, e3, Int.mul_zero] at e2
    exact hz e he e2
/-! ### what the law asks -/
theorem law_self {n b N : Nat} {p : Pol} (h : Ok n b N p) : minusP p p = [] := (h.minus h).ext (Ok.nil n b N) fun φ => by rw [S_minus]; simp [S]
theorem law_zero {n b N : Nat} {p : Pol} (h : Ok n b N p) : plusP p (numP n 0) = p := (h.plus (Ok.num n b 0)).ext h fun φ => by rw [S_plus, S_num]; simp
theorem law_one {n b N : Nat} {p : Pol} (h : Ok n b N p) : timesP p (numP n 1) = p := (h.times (Ok.num n b 1)).ext h fun φ => by rw [S_timesNumR φ h]; simp
theorem law_comm {taken : List Int} {rate : Int} (h0 : ∀ x ∈ taken, 0 ≤ x ∧ x ≤ 2) : timesP (fallP taken) (numP taken.length rate) = weightP taken rate :=
  ((Ok.fallP h0).times (Ok.num taken.length 0 rate)).ext (Ok.weight h0) fun φ => by
    rw [S_timesNumR φ (Ok.fallP h0)]
    unfold weightP
    rw [S_timesNum φ (Ok.fallP h0)]
def movedP (n i : Nat) (s : Int) : Pol := plusP (cntP n i) (numP n s)
theorem Ok.moved {n i : Nat} (hi : i < n) (s : Int) : Ok n 1 (1 + s.natAbs) (movedP n i s) := (Ok.cnt hi).plus (Ok.num n 1 s)
theorem law_moved {n i : Nat} (hi : i < n) (s : Int) : minusP (movedP n i s) (cntP n i) = numP n s := ((Ok.moved hi s).minus (Ok.cnt hi)).ext (Ok.num n 0 s) fun φ => by
  unfold movedP
  rw [S_minus, S_plus]; omega
theorem law_twice {n i : Nat} (hi : i < n) (s : Int) : ∃ k c, (k, c) ∈ minusP (timesP (movedP n i s) (movedP n i s)) (cntP n i) ∧ k ≠ zeros n := by
  have hu := length_unitK hi
  have e0 : (zipAdd (unitK n i) (unitK n i)).sum = 2 := by rw [sum_zipAdd rfl, sum_unitK]; rfl
  have n1 : unitK n i ≠ zipAdd (unitK n i) (unitK n i) := fun e => by have := congrArg List.sum e; rw [e0, sum_unitK] at this; omega
  have n0 : zeros n ≠ zipAdd (unitK n i) (unitK n i) := fun e => by have := congrArg List.sum e; rw [e0, sum_zeros] at this; omega
  have hS : ∀ ψ : List Int → Int, S ψ (movedP n i s) = ψ (unitK n i) + s * ψ (zeros n) := fun ψ => by
    unfold movedP
    rw [S_plus, S_cnt, S_num]
  have e : S (ind (zipAdd (unitK n i) (unitK n i))) (minusP (timesP (movedP n i s) (movedP n i s)) (cntP n i)) = 1 := by
    rw [S_minus, S_times, S_cnt, hS, hS, hS, zipAdd_zeros hu, zeros_zipAdd hu, zipAdd_zeros (by simp [zeros])]
    simp [ind, n1, n0]
  obtain ⟨c, hc⟩ := mem_of_S_ind (by rw [e]; decide)
  exact ⟨_, c, hc, n0.symm⟩
theorem plus_one_ne {p : Pol} {n b N : Nat} (h : Ok n b N p) : plusP p (numP n 1) ≠ p := fun e => by
  have h1 : S (ind (zeros n)) (plusP p (numP n 1)) = S (ind (zeros n)) p := by rw [e]
  rw [S_plus, S_num] at h1
  simp [ind] at h1
  omega
end K64
namespace K64
open PySem PySem.Spec PyProof.Rows L2

theorem argBest_at {bt : Nat → Nat → Bool} {n m : Nat} (hm : m < n) (h1 : ∀ j, j < n → j ≠ m → bt m j = true) (h2 : ∀ j, j < n → j ≠ m → bt j m = false) : argBest bt (n - 1) = m := by
  have key : ∀ k, k < n → (m ≤ k → argBest bt k = m) ∧ argBest bt k ≤ k := by
    intro k
    induction k with
    | zero =>
      intro _
      refine ⟨fun h => ?_, Nat.le_refl _⟩
      show 0 = m
      omega
    | succ k ih =>
      intro hk
      obtain ⟨a, b⟩ := ih (by omega)
      have e : argBest bt (k + 1) = if bt (k + 1) (argBest bt k) then k + 1 else argBest bt k := rfl
      by_cases hmk : m ≤ k
      · have e2 := a hmk
        rw [e, e2, h2 (k + 1) hk (by omega)]
        exact ⟨fun _ => rfl, by show m ≤ k + 1; omega⟩
      · by_cases hm1 : m = k + 1
        · have e3 : bt (k + 1) (argBest bt k) = true := by rw [← hm1]; exact h1 _ (by omega) (by omega)
          rw [e, e3]
          exact ⟨fun _ => hm1.symm, Nat.le_refl _⟩
        · refine ⟨fun h => by omega, ?_⟩
          rw [e]
          split
          · exact Nat.le_refl _
          · omega
  exact (key (n - 1) (by omega)).1 (by omega)

/-- at t stands the pair (powers, factor) -/
def PAt (H : Hp) (t : Addr) (e : List Int × Int) : Prop := ∃ q, H t = some (.tup [.ref q, .int e.2]) ∧ H q = some (.tup (e.1.map V.int))
def keyD (k : List Int) : PyData := .tuple [.int k.sum, .tuple (k.map .int)]
theorem keyD_alike (k l : List Int) : W.alike (keyD k) (keyD l) = true := by
  have h := W.alike_ints k l
  simp [keyD, W.alike, W.alikeAll, h]
theorem keyD_depth (k : List Int) : PyData.depth (keyD k) = 2 := by
  have h := W.depth_ints k
  simp [keyD, PyData.depth, PyData.depthAll, h]
theorem keyD_lt {k l : List Int} (h : k.sum < l.sum) : W.dataLt (keyD k) (keyD l) = true ∧ W.dataLt (keyD l) (keyD k) = false := by
  have a1 : W.alike (.int k.sum) (.int l.sum) = true := by simp [W.alike]
  have a2 : W.alike (.int l.sum) (.int k.sum) = true := by simp [W.alike]
  have b1 : W.alike (.tuple (k.map .int)) (.tuple (l.map .int)) = true := by simp [W.alike, W.alike_ints]
  have b2 : W.alike (.tuple (l.map .int)) (.tuple (k.map .int)) = true := by simp [W.alike, W.alike_ints]
  have n1 : PyData.eqv (.int k.sum) (.int l.sum) = false := by
    simp only [PyData.eqv]
    exact beq_eq_false_iff_ne.mpr (by omega)
  have n2 : PyData.eqv (.int l.sum) (.int k.sum) = false := by
    simp only [PyData.eqv]
    exact beq_eq_false_iff_ne.mpr (by omega)
  refine ⟨?_, ?_⟩
  · unfold keyD
    rw [W.dataLt_pair a1 b1, n1, if_neg Bool.false_ne_true, W.dataLt_int]
    exact decide_eq_true h
  · unfold keyD
    rw [W.dataLt_pair a2 b2, n2, if_neg Bool.false_ne_true, W.dataLt_int]
    exact decide_eq_false (by omega)
theorem reads_ints {X : Cx} {pins : List (Addr × Obj)} {σ : L2.St} {H : Hp} {s : Shared} (I : Inv X pins σ H s) {q : Addr} {ks : List Int} (hq : H q = some (.tup (ks.map V.int))) : ∃ as, Reads s.heap (.ref q) (.tuple (ks.map .int)) as := by
  have hd : ∀ l : List Int, DpAll X.K H (l.map V.int) (l.map PyData.int) := by
    intro l
    induction l with
    | nil => exact .nil
    | cons a l ih => exact .cons (.int a) ih
  exact Dp.reads I _ _ _ (.tup (SqT.of hq) (hd ks)) rfl

section
variable {X : Cx} {pins : List (Addr × Obj)} {σ : L2.St} {H : Hp} {s : Shared}
open LamX in
theorem call_maxKey {k : Nat} (I : Inv X pins σ H s) (hc : X.calm = true) (hr : Room (k + 2) X.A) {f c' : Addr} {qual : Str} {params : Arguments} {scope : Scope} {pm ctv : Value} {p1 p2 p3 p4 p5 p6 p7 p8 p9 : Pos} {z1 z2 z3 : Nat}
    (hf : s.heap.get? f = some (PySem.W.kla_obj "<lambda>" qual params (keyBody p1 p2 p3 p4 p5 p6 p7 p8 p9 z1 z2 z3) scope [] pm c' ctv)) (hfn : H f = none) (hfr : f ∉ frs X.stack) (hco : H c' = some (CodeO c' qual))
    (S : FnScope ["term"] ["term"] scope) (hl : scope.names.lookup ("term" : Str) = some .local) (hg : scope.names.lookup ("sum" : Str) = some .globalImplicit) (hm : X.mg "sum" = none)
    (hb : ∀ u : Value, bindArgs (PySem.W.kla_fn "<lambda>" qual params (keyBody p1 p2 p3 p4 p5 p6 p7 p8 p9 z1 z2 z3) scope [] pm (.ref c') ctv) ⟨[u], []⟩ = pure [(("term" : Str), u)])
    {a : Addr} {o : Obj} {ts : List Addr} {es : List (List Int × Int)} {m : Nat} {L : List Int} {r : Int} {tm : Addr} {Q : VK} (ha : H a = some (.frz o (.tup (ts.map V.ref)))) (hp : Paired (PAt H) ts es)
    (hem : es[m]? = some (L, r)) (htm : ts[m]? = some tm) (hlt : ∀ (j : Nat) (e : List Int × Int), es[j]? = some e → j ≠ m → e.1.sum < L.sum) (q : Q (.ref tm) H) :
    wpAny (model X.prog X.w) X.A (call (.builtin "max") [.ref a] [(Str.ofString "key", .ref f)]) (EP X pins σ Q) X.xe s := by
  obtain ⟨hoa, z, its, rv, o', ho', hcls, nn, hdat⟩ := I.hok a _ ha
  rw [hoa] at ho'
  cases ho'
  have hTup : ∀ {s' : Shared}, Inv X pins σ H s' → s'.heap.IsTuple a its.toArray := fun {s'} I' => ⟨o, (I'.hok a _ ha).1, hcls, nn, hdat⟩
  have hits : its = ts.map Value.ref := by
    have aux : ∀ {ts : List Addr} {us : List Value}, Vals (ts.map V.ref) us → us = ts.map Value.ref := by
      intro ts
      induction ts with
      | nil => intro us h; cases h; rfl
      | cons t ts ih => intro us h; cases h with | cons r t' => cases r; rw [ih t']; rfl
    exact aux rv
  have hlen : ts.length = es.length := Paired.length hp
  have hmn : m < ts.length := (List.getElem?_eq_some_iff.mp htm).1
  have hisz : its.toArray.size = ts.length := by rw [hits]; simp
  have hal : a < s.heap.objs.size := Heap.lt_size hoa
  have hn0 : 0 < its.toArray.size := by omega
  have hr1 : Room (k + 1) X.A.in1 := hr.in1
  have fS : f < s.heap.objs.size := Heap.lt_size hf
  have hfp : ∀ b, s.heap.objs.size ≤ b → FpOk X pins H b := fun b hb => I.fpOk hb (I.hok.fresh hb)
  refine call_max_walkK (wpAny_pyIter_tuple (hTup I) ?_)
  have hI0 : s.heap.objs.size ≤ s.heap.objs.size := Nat.le_refl _
  have hS0 : (s.heap.push { cls := .type "tuple_iterator", data := .fields #[.ref a, .int 0 0] }).objs.size = s.heap.objs.size + 1 := Heap.size_push ..
  refine ⟨s.heap.objs.size, [s.heap.objs.size, a], [s.heap.objs.size], fun a b => b = a, its.toArray.size, fun i v => its.toArray[i]? = some v, fun i s' => s'.heap.IsTupleIter s.heap.objs.size a i ∧ s'.heap.IsTuple a its.toArray,
    fun s' => Inv X pins σ H s' ∧ s'.heap.get? f = some (PySem.W.kla_obj "<lambda>" qual params (keyBody p1 p2 p3 p4 p5 p6 p7 p8 p9 z1 z2 z3) scope [] pm c' ctv),
    fun i kv s' => ∃ (e : List Int × Int) (T q : Addr) (tk : Tok), es[i]? = some e ∧ kv = .ref T ∧ H T = none ∧ T ∉ frs X.stack ∧ T ≠ s.heap.objs.size ∧ T ≠ s.heap.objs.size + 1 ∧ H q = some (.tup (e.1.map V.int)) ∧
      s'.heap.get? T = some { cls := .type "tuple", data := .seq #[.int e.1.sum tk, .ref q] },
    fun i j => W.dataLt (keyD ((es[j]?.map (·.1)).getD [])) (keyD ((es[i]?.map (·.1)).getD [])), rfl, (Walks.tuple (A := X.A.in1) (I.ok.hd hc) s.heap.objs.size a (Nat.ne_of_lt hal) its.toArray).toS, ⟨⟨_, Heap.get?_push_size _ rfl, rfl, rfl⟩, ?_⟩, ?_, hn0, ?_, ⟨I.kept (t' := s.toks) fun b o e => Heap.get?_push_of_some _ e, Heap.get?_push_of_some _ hf⟩, ?_⟩
  · exact (hTup I).at fun o e => Heap.get?_push_of_some _ e
  · intro b hb
    show b < (s.heap.push { cls := .type "tuple_iterator", data := .fields #[.ref a, .int 0 0] }).objs.size
    rw [hS0]
    simp only [List.mem_cons, List.not_mem_nil, or_false] at hb
    rcases hb with rfl | rfl
    · exact Nat.lt_succ_self _
    · exact Nat.lt_succ_of_lt hal
  · show KeyRun X.prog X.w X.A.in1 (.ref f) .Gt (s.heap.push { cls := .type "tuple_iterator", data := .fields #[.ref a, .int 0 0] }).objs.size [s.heap.objs.size] _ _ _ _ _ _ _
    rw [hS0]
    refine ⟨?_, ?_, ?_, ?_⟩
    · rintro s1 s2 ⟨I1, hf1⟩ hm12
      have e1 : s2.gens = s1.gens := hm12.gens
      refine ⟨?_, hm12.heap f _ (by simp only [List.mem_cons, List.not_mem_nil, or_false, not_or]; exact ⟨Nat.ne_of_lt (Nat.lt_succ_of_lt fS), Nat.ne_of_lt fS⟩) hf1⟩
      obtain ⟨h2, g2, d2, t2, os2⟩ := s2
      have e3 : os2 = s1.os := hm12.os
      subst e3
      have kp : ∀ b o, b ≠ s.heap.objs.size + 1 → b ≠ s.heap.objs.size → s1.heap.get? b = some o → h2.get? b = some o := fun b o n1 n2 e => hm12.heap b o (by simp [n1, n2]) e
      have hIn : H s.heap.objs.size = none := I.hok.fresh hI0
      have hSn : H (s.heap.objs.size + 1) = none := I.hok.fresh (Nat.le_succ _)
      have ne : ∀ b u, H b = some u → b ≠ s.heap.objs.size + 1 ∧ b ≠ s.heap.objs.size := fun b u e => ⟨ne_of_none e hSn, ne_of_none e hIn⟩
      refine I1.call (h' := h2) (g' := g2) (d' := d2) (t' := t2) (ch := [s.heap.objs.size + 1, s.heap.objs.size]) ⟨fun b o e n _ hx => ?_, fun b o e n _ hx => ⟨o.slots, ?_⟩, fun _ _ _ n _ => n, fun b o e hx => ⟨o, ?_⟩, fun _ _ e => e, fun _ _ _ e => e, fun b ps e => ⟨#[], by rw [e]; simp⟩⟩ ?_ (by rw [show g2 = s1.gens from e1]; exact I1.bare) (fun b hb => ?_)
      · simp at hx; exact kp b o hx.1 hx.2 e
      · simp at hx; exact kp b o hx.1 hx.2 e
      · simp at hx; exact kp b o hx.1 hx.2 e
      · intro b u e
        refine (I1.hok b u e).stay (fun c v hcc qq => kp c v ?_ ?_ qq) (fun _ qq => qq) fun _ _ qq => qq
        · rcases hcc with zz | zz
          · rw [zz]; exact (ne b u e).1
          · exact (ne c _ zz).1
        · rcases hcc with zz | zz
          · rw [zz]; exact (ne b u e).2
          · exact (ne c _ zz).2
      · simp only [List.mem_cons, List.not_mem_nil, or_false] at hb
        have hge : s.heap.objs.size ≤ b := by rcases hb with rfl | rfl <;> omega
        obtain ⟨f0, f1, f2, f3, f4, f5⟩ := hfp b hge
        exact ⟨f3, f1, f4, f5⟩
    · rintro i kv s1 s2 ⟨e, T, qq, tk, h1, h2, h3, h4, h5, h6, h7, h8⟩ hm12
      exact ⟨e, T, qq, tk, h1, h2, h3, h4, h5, h6, h7, hm12.heap T _ (by simp [h5, h6]) h8⟩
    · rintro i v s1 oS Q' E' hi hv ⟨I1, hf1⟩ ⟨hit1, htu1⟩ hS1 hk
      rw [hits] at hv
      have hv' : (ts.map Value.ref)[i]? = some v := by simpa using hv
      rw [List.getElem?_map] at hv'
      obtain ⟨t, ht, rfl⟩ := Option.map_eq_some_iff.mp hv'
      have hie : i < es.length := by
        have := (List.getElem?_eq_some_iff.mp ht).1
        omega
      obtain ⟨e, he⟩ : ∃ e, es[i]? = some e := ⟨es[i], List.getElem?_eq_getElem hie⟩
      obtain ⟨t', ht', qq, g1, g2⟩ : ∃ t', ts[i]? = some t' ∧ PAt H t' e := by
        have : ∀ {ts : List Addr} {es : List (List Int × Int)} {i : Nat} {e : List Int × Int}, Paired (PAt H) ts es → es[i]? = some e → ∃ t', ts[i]? = some t' ∧ PAt H t' e := by
          intro ts es i e hp he
          induction hp generalizing i with
          | nil => simp at he
          | cons h _ ih =>
            cases i with
            | zero =>
              simp at he
              subst he
              exact ⟨_, rfl, h⟩
            | succ i => exact ih (by simpa using he)
        exact this hp he
      rw [ht] at ht'
      cases ht'
      obtain ⟨⟨oc, vs, tq, hoc, hdc, hvc⟩, _, _⟩ := I1.hok c' _ hco
      refine wpAny_call (codeAny_mono (lamKey_run hr1 I1.env0.in1 hf1 ⟨c', oc, vs, tq, rfl, hoc, hdc, hvc⟩ S hl hg hm hb g1 g2) fun rr s2 hq => ?_)
      obtain ⟨T, tk, rfl, hos, hbare, un, hok2, hTs, hT⟩ := hq
      have hTn : H T = none := I1.hok.fresh hTs
      obtain ⟨h2, g2', d2, t2, os2⟩ := s2
      have hos' : os2 = s1.os := hos
      subst hos'
      have I2 : Inv X pins σ H ⟨h2, g2', d2, t2, s1.os⟩ := I1.call (h' := h2) (g' := g2') (d' := d2) (t' := t2) (ch := []) un hok2 hbare (fun b z => absurd z (by simp))
      have keepN : ∀ b o, s1.heap.get? b = some o → H b = none → b ∉ frs X.stack → h2.get? b = some o := fun b o e n nf => un.keep b o e n nf (by simp)
      have nf0 : ∀ b, s.heap.objs.size ≤ b → b ∉ frs X.stack := fun b hb zz => by
        rcases List.mem_cons.mp (I.stkSub b zz) with e' | hb'
        · exact (hfp b hb).2.1 e'
        · exact (hfp b hb).2.2.1 hb'
      have hI1 : s.heap.objs.size < s1.heap.objs.size := by obtain ⟨oo, hoo, _⟩ := id hit1; exact Heap.lt_size hoo
      have hS1' : s.heap.objs.size + 1 < s1.heap.objs.size := Heap.lt_size hS1
      refine hk (.ref T) ⟨h2, g2', d2, t2, s1.os⟩ ⟨I2, keepN f _ hf1 hfn hfr⟩ ⟨hit1.at fun oo e' => keepN _ _ e' (I.hok.fresh hI0) (nf0 _ hI0), hTup I2⟩ (keepN _ _ hS1 (I.hok.fresh (Nat.le_succ _)) (nf0 _ (Nat.le_succ _))) ⟨e, T, qq, tk, he, rfl, hTn, nf0 T (Nat.le_of_lt (Nat.lt_of_lt_of_le hI1 hTs)), Nat.ne_of_gt (Nat.lt_of_lt_of_le hI1 hTs), Nat.ne_of_gt (Nat.lt_of_lt_of_le hS1' hTs), g2, hT⟩ ?_
      rintro j k' ⟨e2, T2, q2, tk2, a1, a2, a3, a4, a5, a6, a7, a8⟩
      exact ⟨e2, T2, q2, tk2, a1, a2, a3, a4, a5, a6, a7, keepN _ _ a8 a3 a4⟩
    · rintro i j ki kj s1 Q' E' ⟨I1, _⟩ ⟨e1, T1, q1, tk1, a1, rfl, a3, a4, a5, a6, a7, a8⟩ ⟨e2, T2, q2, tk2, b1, rfl, b3, b4, b5, b6, b7, b8⟩ hQ
      rw [a1, b1] at hQ
      obtain ⟨as1, r1⟩ := reads_ints I1 a7
      obtain ⟨as2, r2⟩ := reads_ints I1 b7
      have R1 : Reads s1.heap (.ref T1) (keyD e1.1) _ := Reads.tuple (vs := #[.int e1.1.sum tk1, .ref q1]) a8 rfl rfl (.cons (.int _ _) (.cons r1 .nil))
      have R2 : Reads s1.heap (.ref T2) (keyD e2.1) _ := Reads.tuple (vs := #[.int e2.1.sum tk2, .ref q2]) b8 rfl rfl (.cons (.int _ _) (.cons r2 .nil))
      refine W.rcGt_alike _ _ X.A.in1 s1 _ _ _ _ R1 R2 (keyD_alike _ _) (by intro zz; unfold keyD at zz; cases zz) ?_ X.prog X.w E' Q' hQ
      have hu := hr.units
      rw [keyD_depth, keyD_depth]
      show X.A.units + 1 + min 2 2 < cLine
      omega
  · rintro v s1 hv ⟨I1, _⟩
    have key : ∀ j, j < its.toArray.size → j ≠ m → W.dataLt (keyD ((es[j]?.map (·.1)).getD [])) (keyD ((es[m]?.map (·.1)).getD [])) = true ∧ W.dataLt (keyD ((es[m]?.map (·.1)).getD [])) (keyD ((es[j]?.map (·.1)).getD [])) = false := by
      intro j hj hjm
      have hje : j < es.length := by omega
      have ej : es[j]? = some es[j] := List.getElem?_eq_getElem hje
      have := hlt j _ ej hjm
      rw [ej, hem]
      exact keyD_lt this
    rw [argBest_at (m := m) (by omega) (fun j hj hn => (key j hj hn).1) fun j hj hn => (key j hj hn).2] at hv
    rw [hits] at hv
    have hv' : (ts.map Value.ref)[m]? = some v := by simpa using hv
    rw [List.getElem?_map, htm] at hv'
    cases hv'
    exact ⟨.ref tm, H, I1, rfl, q⟩
end
end K64
namespace K64
open PySem PySem.Spec PyProof.Rows L2 LamX

/-- max(e, key=lambda ..): e a tuple of pairs, one of which has the greatest sum of powers -/
def tMaxKey (T : List (Addr × Str)) (te : TA) : TE := fun σ H Q => te σ H fun vs H1 => ∃ (a : Addr) (o : Obj) (ts : List Addr) (es : List (List Int × Int)) (m : Nat) (L : List Int) (r : Int) (tm : Addr), vs = [.ref a] ∧ H1 a = some (.frz o (.tup (ts.map V.ref))) ∧
  Paired (PAt H1) ts es ∧ es[m]? = some (L, r) ∧ ts[m]? = some tm ∧ (∀ (j : Nat) (e : List Int × Int), es[j]? = some e → j ≠ m → e.1.sum < L.sum) ∧ Tabs T H1 ∧ ∀ H2, ExtN H1 H2 → Tabs T H2 → Q (.ref tm) H2
theorem PAt.ext {H H' : Hp} (e : ExtN H H') {t : Addr} {p : List Int × Int} (h : PAt H t p) : PAt H' t p := by
  obtain ⟨q, h1, h2⟩ := h
  exact ⟨q, e _ _ h1 (fun ps z => by cases z), e _ _ h2 fun ps z => by cases z⟩
theorem paired_imp {α β : Type} {R S : α → β → Prop} (h : ∀ a b, R a b → S a b) : ∀ {xs : List α} {ys : List β}, Paired R xs ys → Paired S xs ys
  | _, _, .nil => .nil
  | _, _, .cons a t => .cons (h _ _ a) (paired_imp h t)
theorem pe_maxKey {X : Cx} {T : List (Addr × Str)} {k : Nat} {e : Expr} {ta : TA} {params : Arguments} {scope : Scope} {c P : Addr} {p p0 lpos kpos pos : Pos} {p1 p2 p3 p4 p5 p6 p7 p8 p9 : Pos} {z1 z2 z3 : Nat}
    (hcalm : X.calm = true) (hr : Room (k + 2) X.A) (hgm : Gl X "max") (hmm : X.mg "max" = none) (ha : PA X [e] ta)
    (TB : TabB X.base X.mg c P) (hcode : X.env.code = .ref c) (hmT : (P, X.env.qual ++ "<lambda>") ∈ T) (hu : ∀ p ∈ T, p.1 = P → p.2 = X.env.qual ++ "<lambda>") (hdef : defaultsOf params X.env = ([], []))
    (hclo : cloFrom X.env.cells scope.names [] = []) (hfree : ∀ y ∈ scope.names, y.2 ≠ .free)
    (S : FnScope ["term"] ["term"] scope) (hl : scope.names.lookup ("term" : Str) = some .local) (hg : scope.names.lookup ("sum" : Str) = some .globalImplicit) (hm : X.mg "sum" = none)
    (hb : ∀ (q : Str) (pm cv ctv u : Value), bindArgs (PySem.W.kla_fn "<lambda>" q params (keyBody p1 p2 p3 p4 p5 p6 p7 p8 p9 z1 z2 z3) scope [] pm cv ctv) ⟨[u], []⟩ = pure [(("term" : Str), u)])
    (he : backTo pos (starEach [e] X.env) = (false, eval e X.env) :: backTo pos (starEach [] X.env) := by rfl) (hpl : (backTo pos (starEach [e] X.env)).any (·.1) = false := by rfl) :
    PE X (.Call (.Name "max" p0) [e] [⟨some "key", .Lambda params (keyBody p1 p2 p3 p4 p5 p6 p7 p8 p9 z1 z2 z3) scope lpos, kpos⟩] pos) (tMaxKey T ta) := by
  refine ⟨fun pins s σ H Q I h => ?_⟩
  refine wpAny_Call_Name_kw (ld_blt I hgm hmm (u := .builtin "max") (by decide +kernel) ?_)
  refine PyProof.Rows.callWith_kw (thn (ha.run pos pins s σ H _ I h) fun us s1 ⟨vs, H1, I1, r1, q1⟩ => ?_) he hpl (by rfl) (by rfl)
  obtain ⟨a, o, ts, es, m, L, r, tm, rfl, h1, h2, h3, h4, h5, h6, h7⟩ := q1
  rw [Vals.ref1 r1]
  show wpAny _ _ (evalAll ((do let v ← eval (.Lambda params (keyBody p1 p2 p3 p4 p5 p6 p7 p8 p9 z1 z2 z3) scope lpos) X.env; standAt pos; pure v) :: (backToKw pos (keywordEach [] X.env)).map (·.2))) _ _ s1
  refine wpAny_evalAll_cons (wpAny_bind (lam_make2 I1 TB hcode hmT hu h6 hdef (fun y hy e => absurd e (hfree y hy)) fun f c' pm ctv H2 s2 I2 eN T2 hf hfn hfr hco => wpAny_bind (wpAny_standAt (wpAny_pure ?_))))
  refine wpAny_evalAll_nil ?_
  rw [hclo] at hf
  exact call_maxKey I2 hcalm hr hf hfn hfr hco S hl hg hm (hb _ _ _ _) (eN _ _ h1 fun ps z => by cases z) (paired_imp (fun t e h => h.ext eN) h2) h3 h4 h5 (h7 H2 eN T2)

/-! ### def is_nothing(act): try: act(); return False except C: return True -/
def TNothing (K : PySem.W.Frag) (CS : Addr) : (XK → Hp → VK → Prop) → Hp → VK → Prop := fun tl H Q =>
  tl (fun cls _ H' => ∃ b, PySem.W.exmOne K cls (.ref CS) = some b ∧ (b = true → Q (.bl true) H') ∧ (b = false → False)) H (fun _ H' => Q (.bl false) H')
theorem nothing_gives {X : Cx} {Ng : List Str} {x a e q : Str} {sg : Scope} {g CS : Addr} {cdg : Value} {j1 j2 : Nat} {p1 p2 p3 p4 p5 p6 p7 p8 p9 p10 : Pos} (hge : sg.names.lookup e = some .globalImplicit) (hme : X.mg e = some (.ref CS)) (hde : (e == ("__debug__" : Str)) = false) (h0 : ∀ f : Addr, (L2.start Ng [V.ref f])[0]? = some (some (V.ref f))) :
    GivesTo X Ng x sg g cdg [.Try [.Expr (.Call (.Name a p1) [] [] p2) p3, .Return (some (.Constant (.bool false) j1 p4)) p5] [.ExceptHandler (some (.Name e p6)) none [.Return (some (.Constant (.bool true) j2 p7)) p8] p9] [] [] p10] a q (TNothing X.K CS) := by
  intro f c' s H Q tl act hc h
  have hgl : Gl (cxOf C8.CX0 X.prog X.w X.K X.mg X.base Ng x sg g cdg X.A X.stack s H C8.E0).nox e := hge
  refine ⟨_, pss_one (ps_try_only (X := (cxOf C8.CX0 X.prog X.w X.K X.mg X.base Ng x sg g cdg X.A X.stack s H C8.E0).nox) (c := .ref CS)
      (tb := fun W D σ H => ∃ Ech : XK, (∀ cls d σ' H', Ech cls d H' → W cls d σ' H') ∧ σ[0]? = some (some (.ref f)) ∧ H c' = some (CodeO c' q) ∧ tl Ech H (fun _ H' => D.rt (.bl false) H'))
      rfl rfl ⟨hgl, hde, .inl hme⟩ LamX.takes0 (fun W pn xe tk _ => ?_) (fun a oe cls d pn _ _ => pss_one (ps_ret pe_bl))), ?_⟩
  · refine ⟨fun pins s' σ H' D I h' => ?_⟩
    obtain ⟨Ech, hW, h1, h2, h3⟩ := h'
    have hp := act W pn xe Ech p1 p2 tk hW
    have hq := pss_cons (ps_expr (pos := p3) hp) (pss_one (ps_ret (pos := p5) (pe_bl (b := false) (j := j1) (pos := p4))))
    exact hq.run pins s' σ H' D I ⟨h1, h2, h3⟩
  · exact ⟨fun cls _ H' => ∃ b, PySem.W.exmOne X.K cls (.ref CS) = some b ∧ (b = true → Q (.bl true) H') ∧ (b = false → False), fun cls d σ' H' ⟨b, e1, e2, e3⟩ => ⟨b, e1, fun hb a _ => e2 hb, fun hb => e3 hb⟩, h0 f, hc, h⟩

/-! ### the end: the empty tables of the defs that the head has recorded -/
theorem walk_ofTabs {l : PySem.W.OpenLaw} {n k : Nat} {q : Program} {loose : List Str} {XP : (Str → Option Value) → Heap → Prop} {YP : World → Heap → Prop} {d : DefRec} {K : Params → PySem.W.Frag} {CX : World → CXT} {x : Str}
    (hn : l.most = some n) (hn2 : n ≤ sizeLine) (hdf : d.params.defaults = []) (hr : Room k callerA) (hY : ∀ (w : World) (h : Heap), YP w h → (K w.params).In h)
    (F : ∀ (w : World) (mg : Str → Option Value) (fa : Addr) (h : Heap), YP w h → (K w.params).In h → h.Ns mainGlobals mg → mg d.name = some (.ref fa) →
      (∀ (nm : Str) (ga : Addr), ((recsOf q).any fun e => e.name == nm) = true → mg nm = some (.ref ga) → OwnTab (K w.params) ga h) → LawAtS l w (K w.params) (CX w) k n x mg fa h)
    (hCX : ∀ (w : World) (H : Hp) (s : Shared) (e : Value) (s' : Shared), CX w [] H s (fun _ _ _ => False) e s' → False) :
    PySem.W.WalkO q loose XP YP l.row.toRowW d [] (fun f vs => PySem.call f vs) := by
  refine Att.attach_callB hn hdf fun w s₀ s₁ mg mb fa o pm cd doc a vs ns G Y ho hd hcd hmg hobj hints hlen hbits hg => ?_
  have KX := hY w _ Y
  have own : ∀ (nm : Str) (ga : Addr), ((recsOf q).any fun e => e.name == nm) = true → mg nm = some (.ref ga) → OwnTab (K w.params) ga s₁.heap := fun nm ga hrec hga c P o1 fd1 e dd vs1 sl k1 k2 k3 k4 k5 => by
    obtain ⟨dL, hm, hn1⟩ := List.any_eq_true.mp hrec
    have hn2 : dL.name = nm := beq_iff_eq.mp hn1
    obtain ⟨a', o', fd', c', P', h1, h2, h3, h4, h5, h6⟩ := G.T.tab dL hm
    rw [hn2, hga] at h1
    cases h1
    have g1 := KX _ _ k1
    rw [g1] at h2
    cases h2
    rw [k2] at h3
    cases h3
    rw [k3] at h4
    cases h4
    obtain ⟨⟨oc, vc, e1, _, e3, e4⟩, hP⟩ := h6
    have g2 := KX _ _ k4
    rw [g2] at e1
    cases e1
    cases e3
    rw [k5] at e4
    cases e4
    exact hP
  obtain ⟨fd, cs, sp, hT, nT, C, hb, hsp, hF⟩ := F w mg fa _ Y KX G.T.g hmg own
  exact law_callTs KX G.T.g G.T.b G.T.builtins G.T.nolimit hg hT nT C G.T.bmain hobj hints (Nat.le_trans hlen hn2) hr hF hb (fun H hH hS => hsp H a ns hlen hbits hH hS) fun H e s' => hCX w H s₁ e s'
end K64
namespace K64
open PySem PySem.Spec PyProof.Rows L2

/-! ### X(), X an own exception class without own __init__ -/
theorem pmk_own0 {X : Cx} {C : Addr} {bmB : List Value} {B newId initId : String} {x : Str} {p pos : Pos} (F : ExcBaseFacts B newId initId bmB) (q : PySem.W.excIn X.K C bmB newId = true) (gC : X.mg x = some (.ref C))
    (kC : PySem.W.keepIn X.K (.ref C) = true) (r : Raises X (.ref C)) (hg : Gl X x) (hdb : (x == ("__debug__" : Str)) = false := by decide) :
    PMk X (.Call (.Name x p) [] [] pos) (fun _ H Q => Q (.ref C) none H) := by
  intro pins s σ H Q I h
  refine wpAny_Call_Name_kw (ld_glob I hg gC ?_ hdb)
  refine PySem.W.callWith_K0 I.kIn kC ?_
  show wpAny _ _ (call (.ref C) []) _ _ _
  obtain ⟨bm, N, nm, qn, bs, hdct, sn, sub, ab, col, dd, k0, k1, k2, k3, k5, mN, hC, hN, hni, T⟩ := exc_obj I.kIn q
  refine wpAny_call_exc_subT F T hC hN hni (fun h' e hm => ?_) (Nat.zero_le _)
  exact mk_of I hm r h (I.hok.gone hm.new)

/-! ### a def that may be called by its name -/
structure Fn (P : Program) (w : World) (K : PySem.W.Frag) (mg : Str → Option Value) (base : Heap) (CXx : CXT) (k : Nat) (x : Str) (ps : List Str) (sp : Sp) : Prop where
  ex : ∃ (f : Addr) (fd : FuncData), FnOk P w K mg base CXx k f fd ps sp ∧ mg x = some (.ref f) ∧ PySem.W.keepIn K (.ref f) = true ∧ Binds K fd ps []
theorem pe_fn {X : Cx} {CXx : CXT} {k : Nat} {x : Str} {ps : List Str} {sp : Sp} {E : XK} {e : Expr} {es : List Expr} {t : TA} {p pos : Pos} (F : Fn X.prog X.w X.K X.mg X.base CXx k x ps sp) (hr : Room k X.A) (hg : Gl X x) (hx : Passes CXx X E) (ha : PA X (e :: es) t)
    (hdb : (x == ("__debug__" : Str)) = false := by decide) (he : starEach (e :: es) X.env = (false, eval e X.env) :: starEach es X.env := by rfl) (hpl : (backTo pos (starEach es X.env)).any (·.1) = false := by rfl) :
    PE X (.Call (.Name x p) (e :: es) [] pos) (tCall sp [] E t) := by
  obtain ⟨f, fd, G, m, kp, b⟩ := F.ex
  exact pe_call G hr hg m kp b .nil hx ha hdb he hpl
/-- what leaves a callee leaves the def as well -/
theorem passT {X : Cx} {E : XK} (tk : Takes X (fun cls d _ H => E cls d H)) : Passes (L2.CX X.prog X.w) X E := passes_call tk fun _ _ _ _ z => z
end K64
namespace K64
open PySem PySem.Spec PyProof.Rows L2

def top (i : Nat) : Stmt := PySem.Challenge.pw_thrownpots_k64_polynomials_of_weights.main.body.getD i (.Pass ⟨0, 0, 0, 0⟩)
abbrev sIsInt : Stmt := top 6
abbrev sIsCount : Stmt := top 7
abbrev sIsSmall : Stmt := top 12
abbrev sTidied : Stmt := top 13
abbrev sNumber : Stmt := top 14
abbrev sCountOf : Stmt := top 15
abbrev sPotsOf : Stmt := top 16
abbrev sPlus : Stmt := top 17
abbrev sNegative : Stmt := top 18
abbrev sMinus : Stmt := top 19
abbrev sTimes : Stmt := top 20
abbrev sFalling : Stmt := top 21
abbrev sWeight : Stmt := top 22
abbrev sSideOf : Stmt := top 23
abbrev sShiftOf : Stmt := top 24
abbrev sWorth : Stmt := top 25
abbrev sBag : Stmt := top 27
abbrev sTake : Stmt := top 28
abbrev sWeights : Stmt := top 29
abbrev sPoly : Stmt := top 30
abbrev sAt : Stmt := top 31
abbrev sNothing : Stmt := top 32
abbrev sLaw : Stmt := top 33

/-- the names of the built-ins that the program has not bound -/
structure Blt (mg : Str → Option Value) : Prop where
  isi : mg "isinstance" = none
  int : mg "int" = none
  bool : mg "bool" = none
  range : mg "range" = none
  all : mg "all" = none
  tuple : mg "tuple" = none
  sorted : mg "sorted" = none
  len : mg "len" = none
  dict : mg "dict" = none
  zip : mg "zip" = none
  enumerate : mg "enumerate" = none
  max : mg "max" = none
  sum : mg "sum" = none
  abs : mg "abs" = none
  list : mg "list" = none
section
variable {P : Program} {w : World} {K : PySem.W.Frag} {mg : Str → Option Value} {base : Heap}
/-! ### is_integer, is_count, is_small -/
def spIsInt : Sp := fun vs H Q _ => ∃ n : Int, vs = [.int n] ∧ Q (.bl true) H
def spIsCount : Sp := fun vs H Q _ => ∃ n : Int, vs = [.int n] ∧ Q (.bl (decide (0 ≤ n))) H
theorem scII : FnScope ["thing"] ["thing"] (defScope sIsInt) := ⟨rfl, rfl, rfl, by decide +kernel, rfl, by decide +kernel, by decide +kernel⟩
theorem ok_isint {f : Addr} {fd : FuncData} (F : Fun K "is_integer" "is_integer" sIsInt f fd) (B : Blt mg) : FnOk P w K mg base CX0 1 f fd ["thing"] spIsInt := by
  refine F.ok scII (fun vs H Q E h => ?_) (fun cdv A outer s H vs Q E hr h => ?_)
  · obtain ⟨n, rfl, _⟩ := h
    rfl
  · obtain ⟨n, rfl, k⟩ := h
    refine ⟨_, pss_one (ps_ret (pe_and (pe_callB call_isi (by rfl) B.isi (by decide +kernel) (pa_cons (pv 0) (pa_cons (pe_bltn (by rfl) B.int (by decide +kernel) (v := .ty "int") rfl) pa_nil)))
      (pe_one (pe_not (pe_callB call_isi (by rfl) B.isi (by decide +kernel) (pa_cons (pv 0) (pa_cons (pe_bltn (by rfl) B.bool (by decide +kernel) (v := .ty "bool") rfl) pa_nil))))))), ?_⟩
    exact ⟨_, rfl, _, _, _, _, true, rfl, .ty "int", .base (.int n), kit_ty (a := "int") (b := "int") (by decide +kernel), true, rfl, iteT ⟨_, rfl, _, _, _, _, false, rfl, .ty "bool", .base (.int n), kit_ty (a := "int") (b := "bool") (by decide +kernel), false, rfl, k⟩⟩
theorem scIC : FnScope ["thing"] ["thing"] (defScope sIsCount) := ⟨rfl, rfl, rfl, by decide +kernel, rfl, by decide +kernel, by decide +kernel⟩
theorem ok_iscount {f : Addr} {fd : FuncData} (F : Fun K "is_count" "is_count" sIsCount f fd) (G : Fn P w K mg base CX0 1 "is_integer" ["thing"] spIsInt) : FnOk P w K mg base CX0 2 f fd ["thing"] spIsCount := by
  refine F.ok scIC (fun vs H Q E h => ?_) (fun cdv A outer s H vs Q E hr h => ?_)
  · obtain ⟨n, rfl, _⟩ := h
    rfl
  · obtain ⟨n, rfl, k⟩ := h
    refine ⟨_, pss_one (ps_ret (pe_and (pe_fn G hr (by rfl) pass0 (pa_cons (pv 0) pa_nil)) (pe_one (pe_cmp (pc_ge (pv 0) pe_int) rfl)))), ?_⟩
    exact ⟨_, rfl, n, rfl, true, rfl, iteT ⟨_, rfl, _, _, rfl, rfl, k⟩⟩
/-- |n| < 10 ** 400 -/
def spIsSmall : Sp := fun vs H Q _ => ∃ n : Int, vs = [.int n] ∧ -(10 ^ 300) < n ∧ n < 10 ^ 300 ∧ Q (.bl true) H
def tenP : Nat → Int
  | 0 => 10 ^ 50
  | i + 1 => tenP i * tenP i
theorem tenP_small : ∀ i, i < 3 → (tenP i).natAbs < 2 ^ 800 := by decide +kernel
theorem tenP_big : (10 : Int) ^ 300 < tenP 3 := by decide +kernel
theorem scIS : FnScope ["integer", "most", "_lap"] ["integer"] (defScope sIsSmall) := ⟨rfl, rfl, rfl, by decide +kernel, rfl, by decide +kernel, by decide +kernel⟩
theorem ok_issmall {f : Addr} {fd : FuncData} (F : Fun K "is_small" "is_small" sIsSmall f fd) (B : Blt mg) : FnOk P w K mg base CX0 1 f fd ["integer"] spIsSmall := by
  refine F.ok scIS (fun vs H Q E h => ?_) (fun cdv A outer s H vs Q E hr h => ?_)
  · obtain ⟨n, rfl, _⟩ := h
    rfl
  · obtain ⟨n, rfl, h1, h2, k⟩ := h
    refine ⟨_, pss_cons (ps_set (i := 1) scIS.nd rfl (Or.inl rfl) (pe_op op_pow pe_int pe_int))
      (pss_cons (ps_for PassesOwn.never rfl (pi_range1 (by rfl) B.range (pa_cons pe_int pa_nil)) (pg_name (i := 2) scIS.nd rfl (Or.inl rfl))
        (pss_one (ps_set (i := 1) scIS.nd rfl (Or.inl rfl) (pe_op op_mulW (pv 1) (pv 1)))))
      (pss_one (ps_ret (pe_chain op_lt op_lt (pe_op op_sub pe_int (pv 1)) (pv 0) (pv 1))))), ?_⟩
    refine ⟨_, _, rfl, rfl, ⟨by decide, by decide, by decide⟩, 3, rfl, by decide, by decide, for_range (n := 3) (fun i σ H' => H' = H ∧ ∃ v, σ = [some (.int n), some (.int (tenP i)), v]) ⟨rfl, none, rfl⟩ ?_ ?_⟩
    · rintro i σ H' hi ⟨rfl, v, rfl⟩
      have := tenP_small i hi
      exact ⟨_, rfl, _, rfl, _, _, rfl, rfl, wide_mul this this (by decide) (by decide) (by decide), rfl, _, rfl⟩
    · rintro σ H' ⟨rfl, v, rfl⟩
      have hb := tenP_big
      generalize (10 : Int) ^ 300 = m at h1 h2 hb
      refine ⟨_, rfl, _, _, rfl, rfl, _, rfl, _, _, rfl, rfl, true, congrArg V.bl (decide_eq_true (show 0 - tenP 3 < n by omega)), iteT ⟨_, rfl, _, _, rfl, rfl, ?_⟩⟩
      show Q (.bl (decide (n < tenP 3))) H'
      rw [decide_eq_true (show n < tenP 3 by omega)]
      exact k
end
end K64
namespace K64
open PySem PySem.Spec PyProof.Rows L2

/-! ### polynomials in the heap -/
def kEnc (k : List Int) : List Key := k.map Sum.inl
def encD (D : Pol) : List (List Key × V) := D.map fun e => (kEnc e.1, .int e.2)
theorem kEnc_kV (k : List Int) : (kEnc k).map kV = k.map V.int := by
  unfold kEnc
  rw [List.map_map]
  rfl
theorem kEnc_inj : ∀ {k l : List Int}, kEnc k = kEnc l → k = l
  | [], [], _ => rfl
  | [], _ :: _, h => by simp [kEnc] at h
  | _ :: _, [], h => by simp [kEnc] at h
  | a :: k, b :: l, h => by
    simp only [kEnc, List.map_cons, List.cons.injEq] at h
    rw [Sum.inl.inj h.1, kEnc_inj (k := k) (l := l) h.2]
def PolAt (H : Hp) (a : Addr) (p : Pol) : Prop := ∃ (o : Obj) (ts : List Addr), H a = some (.frz o (.tup (ts.map V.ref))) ∧ o.dict = none ∧ Paired (PAt H) ts p
theorem PolAt.ext {H H' : Hp} (e : LamX.ExtN H H') {a : Addr} {p : Pol} (h : PolAt H a p) : PolAt H' a p := by
  obtain ⟨o, ts, h1, h2, h3⟩ := h
  exact ⟨o, ts, e _ _ h1 fun ps z => (by cases z), h2, paired_imp (fun t x hx => hx.ext e) h3⟩
theorem PolAt.same {H H' : Hp} (e : Same H H') {a : Addr} {p : Pol} (h : PolAt H a p) : PolAt H' a p := h.ext (.of e)
theorem PolAt.seq {K : PySem.W.Frag} {H : Hp} {a : Addr} {p : Pol} (h : PolAt H a p) : ∃ ts : List Addr, SqT K H a (ts.map V.ref) ∧ Paired (PAt H) ts p := by
  obtain ⟨o, ts, h1, _, h3⟩ := h
  exact ⟨ts, .inl (.inr ⟨o, h1⟩), h3⟩
theorem paired_at {α β : Type} {R : α → β → Prop} : ∀ {xs : List α} {ys : List β} {i : Nat} {x : α}, Paired R xs ys → xs[i]? = some x → ∃ y, ys[i]? = some y ∧ R x y
  | _, _, _, _, .nil, h => by simp at h
  | _, _, 0, _, .cons r _, h => by
    simp at h
    subst h
    exact ⟨_, rfl, r⟩
  | _, _, i + 1, _, .cons _ t, h => by
    obtain ⟨y, h1, h2⟩ := paired_at (i := i) t (by simpa using h)
    exact ⟨y, by simpa using h1, h2⟩
theorem pairT_of {H : Hp} : ∀ {ts : List Addr} {p : Pol}, Paired (PAt H) ts p → Paired (PairT H) ts (encD p)
  | _, _, .nil => .nil
  | _, _, .cons h t => .cons (by obtain ⟨q, h1, h2⟩ := h; exact ⟨q, h1, by rw [kEnc_kV]; exact h2⟩) (pairT_of t)
/-! dicts -/
theorem any_enc {x : List Int} : ∀ {D : Pol}, ((encD D).any fun kv => decide (kv.1 = kEnc x)) = D.any fun e => decide (e.1 = x)
  | [] => rfl
  | (k, c) :: r => by
    have ih := any_enc (x := x) (D := r)
    have e : decide (kEnc k = kEnc x) = decide (k = x) := by
      by_cases h : k = x
      · simp [h]
      · have : ¬ kEnc k = kEnc x := fun z => h (kEnc_inj z)
        simp [h, this]
    show (decide (kEnc k = kEnc x) || (encD r).any fun kv => decide (kv.1 = kEnc x)) = (decide (k = x) || r.any fun e => decide (e.1 = x))
    rw [ih, e]
theorem putP_any {x : List Int} {v : Int} : ∀ {D : Pol}, (D.map (·.1)).Nodup → putP D x v = if (D.any fun e => decide (e.1 = x)) = true then D.map (fun e => if e.1 = x then (e.1, v) else e) else D ++ [(x, v)]
  | [], _ => rfl
  | (k, c) :: r, h => by
    rw [List.map_cons, List.nodup_cons] at h
    by_cases hk : k = x
    · have e1 : (List.any ((k, c) :: r) fun e => decide (e.1 = x)) = true := by simp [hk]
      rw [if_pos e1]
      have e2 : r.map (fun e => if e.1 = x then (e.1, v) else e) = r := by
        conv => rhs; rw [← List.map_id r]
        refine List.map_congr_left fun e he => ?_
        have : e.1 ≠ x := fun z => h.1 (List.mem_map.mpr ⟨e, he, by rw [z, hk]⟩)
        simp [this]
      simp only [putP, hk, if_true, List.map_cons]
      rw [e2]
    · have ih := putP_any (x := x) (v := v) h.2
      have e1 : (List.any ((k, c) :: r) fun e => decide (e.1 = x)) = r.any fun e => decide (e.1 = x) := by simp [hk]
      simp only [putP, hk, if_false, List.map_cons]
      rw [ih, e1]
      split
      · rfl
      · rfl
theorem putK_enc {D : Pol} {x : List Int} {v : Int} (h : (D.map (·.1)).Nodup) : putK (encD D) (kEnc x) (.int v) = encD (putP D x v) := by
  unfold putK
  rw [any_enc, putP_any h]
  split
  · unfold encD
    rw [List.map_map, List.map_map]
    refine List.map_congr_left fun e _ => ?_
    by_cases hk : e.1 = x
    · simp [hk]
    · have : ¬ kEnc e.1 = kEnc x := fun z => hk (kEnc_inj z)
      simp [hk, this]
  · simp [encD]
theorem valV_enc {x : List Int} : ∀ {D : Pol}, (valV (encD D) (kEnc x)).getD (.int 0) = .int (getP D x)
  | [] => rfl
  | (k, c) :: r => by
    by_cases hk : k = x
    · rw [show encD ((k, c) :: r) = (kEnc k, .int c) :: encD r from rfl, valV_pos (by rw [hk])]
      simp [getP, hk]
    · rw [show encD ((k, c) :: r) = (kEnc k, .int c) :: encD r from rfl, valV_neg (fun z => hk (kEnc_inj z)), valV_enc]
      simp [getP, hk]
theorem valV_new {x : List Int} : ∀ {D : Pol}, (∀ e ∈ D, e.1 ≠ x) → valV (encD D) (kEnc x) = none
  | [], _ => rfl
  | (k, c) :: r, h => by
    rw [show encD ((k, c) :: r) = (kEnc k, .int c) :: encD r from rfl, valV_neg (fun z => h (k, c) List.mem_cons_self (kEnc_inj z))]
    exact valV_new fun e he => h e (List.mem_cons_of_mem _ he)
theorem mergeT_enc : ∀ (p d : Pol), ((d ++ p).map (·.1)).Nodup → mergeT (encD d) (encD p) = encD (d ++ p)
  | [], d, _ => by simp [mergeT, encD]
  | (k, c) :: p, d, h => by
    have hn : ∀ e ∈ d, e.1 ≠ k := by
      intro e he q
      rw [List.map_append, List.map_cons, List.nodup_append] at h
      exact h.2.2 e.1 (List.mem_map.mpr ⟨e, he, rfl⟩) k List.mem_cons_self q
    show mergeT (putK (encD d) (kEnc k) (.int c)) (encD p) = _
    rw [putK_new _ (valV_new hn)]
    have e1 : encD d ++ [(kEnc k, V.int c)] = encD (d ++ [(k, c)]) := by simp [encD]
    rw [e1, mergeT_enc p (d ++ [(k, c)]) (by simpa using h)]
    simp
theorem length_encD (D : Pol) : (encD D).length = D.length := by simp [encD]
theorem get_enc {D : Pol} {i : Nat} {k : List Key} {v : V} (h : (encD D)[i]? = some (k, v)) : ∃ e : List Int × Int, D[i]? = some e ∧ k = kEnc e.1 ∧ v = .int e.2 := by
  unfold encD at h
  rw [List.getElem?_map] at h
  obtain ⟨e, he, z⟩ := Option.map_eq_some_iff.mp h
  cases z
  exact ⟨e, he, rfl, rfl⟩

/-! ### loops over any iterator whose turns are counted -/
theorem lc_gen {J : It} {n : Nat} {g : TG} {tt : TT} {te : TE} {vs : List Nat} {σ : L2.St} {H1 : Hp} {D : Addr} {Qd : Hp → Prop} (Pv : Nat → Hp → Prop) (h0 : Pv 0 (upd H1 D (.lst [])))
    (hgo : ∀ i H, i < n → Pv i H → J.go i H) (hst : ∀ H, Pv n H → J.stop n H)
    (hs : ∀ i x H H', i < n → Pv i H → J.yld i H x H' → g x (wipe σ vs) H' fun σ2 H2 => wipe σ2 vs = wipe σ vs ∧ tt σ2 H2 fun b H3 =>
      if b = true then te σ2 H3 fun y H4 => ∃ acc, H4 D = some (.lst acc) ∧ acc.length < sizeLine ∧ Pv (i + 1) (upd H4 D (.lst (acc ++ [y]))) else Pv (i + 1) H3) (hd : ∀ H, Pv n H → Qd H) :
    ∃ W : Nat → Nat → Hp → Prop, (∃ m, W 0 m (upd H1 D (.lst []))) ∧ ∀ i m H, W i m H →
      (J.stop i H ∧ Qd H) ∨ (J.go i H ∧ ∃ Nx : Hp → Prop, (∀ H', Nx H' → ∃ m', m' < m ∧ W (i + 1) m' H') ∧ ∀ x H', J.yld i H x H' → g x (wipe σ vs) H' fun σ2 H2 => wipe σ2 vs = wipe σ vs ∧ tt σ2 H2 fun b H3 =>
        if b = true then te σ2 H3 fun y H4 => ∃ acc, H4 D = some (.lst acc) ∧ acc.length < sizeLine ∧ Nx (upd H4 D (.lst (acc ++ [y]))) else Nx H3) := by
  refine ⟨fun i m H => m = n - i ∧ i ≤ n ∧ Pv i H, ⟨n, by simp, Nat.zero_le _, h0⟩, ?_⟩
  rintro i m H ⟨rfl, hi, p⟩
  by_cases hlt : i < n
  · exact .inr ⟨hgo i H hlt p, Pv (i + 1), fun H' p' => ⟨n - (i + 1), by omega, rfl, hlt, p'⟩, fun x H' y => hs i x H H' hlt p y⟩
  · have e : i = n := by omega
    subst e
    exact .inl ⟨hst H p, hd H p⟩
theorem for_gen {J : It} {n : Nat} {g : TG} {tb : TS} {D : Ends} {σ : L2.St} {H : Hp} (Pv : Nat → L2.St → Hp → Prop) (h0 : Pv 0 σ H)
    (hgo : ∀ i σ H, i < n → Pv i σ H → J.go i H) (hst : ∀ σ H, Pv n σ H → J.stop n H)
    (hs : ∀ i x σ H H', i < n → Pv i σ H → J.yld i H x H' → g x σ H' fun σ2 H2 => tb { D with nx := Pv (i + 1), ct := Pv (i + 1), bk := D.nx } σ2 H2) (hd : ∀ σ H, Pv n σ H → D.nx σ H) :
    ∃ W : Nat → Nat → L2.St → Hp → Prop, (∃ m, W 0 m σ H) ∧ ∀ i m σ H, W i m σ H →
      (J.stop i H ∧ D.nx σ H) ∨ (J.go i H ∧ ∃ N : L2.St → Hp → Prop, (∀ σ' H', N σ' H' → ∃ m', m' < m ∧ W (i + 1) m' σ' H') ∧ ∀ x H', J.yld i H x H' → g x σ H' fun σ2 H2 => tb { D with nx := N, ct := N, bk := D.nx } σ2 H2) := by
  refine ⟨fun i m σ H => m = n - i ∧ i ≤ n ∧ Pv i σ H, ⟨n, by simp, Nat.zero_le _, h0⟩, ?_⟩
  rintro i m σ H ⟨rfl, hi, p⟩
  by_cases hlt : i < n
  · exact .inr ⟨hgo i σ H hlt p, Pv (i + 1), fun σ' H' p' => ⟨n - (i + 1), by omega, rfl, hlt, p'⟩, fun x H' y => hs i x σ H H' hlt p y⟩
  · have e : i = n := by omega
    subst e
    exact .inl ⟨hst σ H p, hd σ H p⟩
/-! ### the order of pairs is the order of data -/
def encE (e : List Int × Int) : PyData := .tuple [.tuple (e.1.map .int), .int e.2]
theorem eqv_ints : ∀ (xs ys : List Int), PyData.eqvAll (xs.map .int) (ys.map .int) = decide (xs = ys)
  | [], [] => by simp [PyData.eqvAll]
  | [], _ :: _ => by simp [PyData.eqvAll]
  | _ :: _, [] => by simp [PyData.eqvAll]
  | x :: xs, y :: ys => by
    have ih := eqv_ints xs ys
    show PyData.eqvAll (.int x :: xs.map .int) (.int y :: ys.map .int) = _
    rw [W.eqv_all_cons, ih]
    by_cases h : x = y
    · subst h
      by_cases g : xs = ys
      · simp [g, PyData.eqv]
      · simp [g, PyData.eqv]
    · have : (x == y) = false := by simpa using h
      simp [PyData.eqv, h, this]
theorem dataLe_pairs : W.dataLe false encE = leP := by
  funext a b
  show (!W.dataLt (encE b) (encE a)) = leP a b
  have al : W.alike (.tuple (b.1.map .int)) (.tuple (a.1.map .int)) = true := by simp [W.alike, W.alike_ints]
  have e1 : PyData.eqv (.tuple (b.1.map .int)) (.tuple (a.1.map .int)) = decide (b.1 = a.1) := by
    rw [← eqv_ints]
    simp [PyData.eqv]
  have e2 : W.dataLt (.tuple (b.1.map .int)) (.tuple (a.1.map .int)) = decide (b.1 < a.1) := by
    rw [W.dataLt_tuple]
    exact W.dataLt_ints _ _
  have e3 : PyData.eqv (.int b.2) (.int a.2) = decide (b.2 = a.2) := by
    by_cases h : b.2 = a.2
    · simp [PyData.eqv, h]
    · have : (b.2 == a.2) = false := by simpa using h
      simp [PyData.eqv, h, this]
  unfold encE
  rw [W.dataLt_pair al (by simp [W.alike]), e1, e2, e3, W.dataLt_int]
  unfold leP
  by_cases h : b.1 = a.1
  · have hn : ¬ a.1 < b.1 := by rw [h]; exact lt_irr _
    by_cases g : b.2 = a.2
    · simp [h, g, lt_irr]
    · by_cases g2 : b.2 < a.2
      · have : ¬ a.2 ≤ b.2 := by omega
        simp [h, g, g2, this, lt_irr]
      · have : a.2 ≤ b.2 := by omega
        simp [h, g, g2, this]
  · by_cases g : b.1 < a.1
    · have hn : ¬ a.1 < b.1 := fun z => lt_irr _ (lt_tr g z)
      have hne : ¬ a.1 = b.1 := fun z => h z.symm
      simp [h, g, hn, hne]
    · have hl : a.1 < b.1 := by
        rcases lt_or a.1 b.1 with z | z | z
        · exact z
        · exact absurd z.symm h
        · exact absurd z g
      simp [h, g, hl]
theorem alikeE (a b : List Int × Int) : W.alike (encE a) (encE b) = true := by simp [encE, W.alike, W.alikeAll, W.alike_ints]
theorem depthE (a : List Int × Int) : PyData.depth (encE a) = 2 := by
  have h := W.depth_ints a.1
  simp [encE, PyData.depth, PyData.depthAll, h]
theorem dpInts {K : PySem.W.Frag} {H : Hp} : ∀ l : List Int, DpAll K H (l.map V.int) (l.map PyData.int)
  | [] => .nil
  | a :: l => .cons (.int a) (dpInts l)
theorem dpPair {K : PySem.W.Frag} {H : Hp} {t : Addr} {e : List Int × Int} (h : PAt H t e) : Dp K H (.ref t) (encE e) := by
  obtain ⟨q, h1, h2⟩ := h
  exact .tup (SqT.of h1) (.cons (.tup (SqT.of h2) (dpInts _)) (.cons (.int _) .nil))
theorem dpPairs {K : PySem.W.Frag} {H : Hp} : ∀ {ts : List Addr} {p : Pol}, Paired (PAt H) ts p → DpAll K H (ts.map V.ref) (p.map encE)
  | _, _, .nil => .nil
  | _, _, .cons h t => .cons (dpPair h) (dpPairs t)
/-- the sorted references stand for the sorted pairs -/
theorem sort_paired {R : Addr → List Int × Int → Prop} {ts : List Addr} {p : Pol} (h : Paired R ts p) : ∃ ts', sortV (ts.map V.ref) (p.map encE) = ts'.map V.ref ∧ Paired R ts' (p.mergeSort leP) := by
  have key : ∀ {ts : List Addr} {p : Pol}, Paired R ts p → ∃ L : List (Addr × (List Int × Int)), (∀ x ∈ L, R x.1 x.2) ∧ ts = L.map (·.1) ∧ p = L.map (·.2) := by
    intro ts p h
    induction h with
    | nil => exact ⟨[], by simp, rfl, rfl⟩
    | cons h _ ih =>
      obtain ⟨L, h1, h2, h3⟩ := ih
      refine ⟨(_, _) :: L, fun x hx => ?_, by rw [h2]; rfl, by rw [h3]; rfl⟩
      rcases List.mem_cons.mp hx with rfl | hx
      · exact h
      · exact h1 x hx
  obtain ⟨L, h1, rfl, rfl⟩ := key h
  refine ⟨(L.mergeSort fun x y => leP x.2 y.2).map (·.1), ?_, ?_⟩
  · have e0 : ((L.map (·.1)).map V.ref).zip ((L.map (·.2)).map encE) = L.map fun x => (V.ref x.1, encE x.2) := by
      rw [List.map_map, List.map_map]
      clear h h1
      induction L with
      | nil => rfl
      | cons a L ih =>
        rw [List.map_cons, List.map_cons, List.zip_cons_cons, ih]
        rfl
    unfold sortV
    rw [e0]
    have e1 : (L.mergeSort fun x y => leP x.2 y.2).map (fun x => (V.ref x.1, encE x.2)) = (L.map fun x => (V.ref x.1, encE x.2)).mergeSort (W.dataLe false fun b => b.2) := by
      refine List.map_mergeSort fun a _ b _ => ?_
      show leP a.2 b.2 = W.dataLe false encE a.2 b.2
      rw [dataLe_pairs]
    rw [← e1, List.map_map, List.map_map]
    rfl
  · have e1 : (L.mergeSort fun x y => leP x.2 y.2).map (·.2) = (L.map (·.2)).mergeSort leP := List.map_mergeSort fun a _ b _ => rfl
    rw [← e1]
    have hm : ∀ x ∈ L.mergeSort fun x y => leP x.2 y.2, R x.1 x.2 := fun x hx => h1 x ((List.mergeSort_perm _ _).mem_iff.mp hx)
    generalize (L.mergeSort fun x y => leP x.2 y.2) = M at hm
    clear e1 h h1
    induction M with
    | nil => exact .nil
    | cons a M ih => exact .cons (hm a List.mem_cons_self) (ih fun x hx => hm x (List.mem_cons_of_mem _ hx))
end K64
namespace K64
open PySem PySem.Spec PyProof.Rows L2

theorem tYes_i {f : Bool → Hp → Prop} {σ : L2.St} {H : Hp} (h : f true H) : tYes σ H f := h
theorem take_more' {α : Type} : ∀ {l : List α} {i : Nat} {x : α}, l[i]? = some x → l.take (i + 1) = l.take i ++ [x]
  | [], i, x, h => by simp at h
  | a :: l, 0, x, h => by
    have e : a = x := Option.some.inj h
    subst e
    rfl
  | a :: l, i + 1, x, h => by
    have ih := take_more' (l := l) (i := i) (x := x) h
    show a :: l.take (i + 1) = a :: l.take i ++ [x]
    rw [ih]
    rfl
theorem paired_snoc {α β : Type} {R : α → β → Prop} {a : α} {b : β} (h : R a b) : ∀ {xs : List α} {ys : List β}, Paired R xs ys → Paired R (xs ++ [a]) (ys ++ [b])
  | _, _, .nil => .cons h .nil
  | _, _, .cons r t => .cons r (paired_snoc h t)
theorem length_norm : ∀ {p : Pol}, (∀ e ∈ p, e.2 ≠ 0) → p.length ≤ norm p
  | [], _ => Nat.le_refl _
  | (k, c) :: r, h => by
    have h1 : c ≠ 0 := h (k, c) List.mem_cons_self
    have h2 := length_norm (p := r) fun e he => h e (List.mem_cons_of_mem _ he)
    simp [norm]; omega
def rLenS (K : PySem.W.Frag) : List V → Hp → VK → Prop := fun xs H Q => ∃ p ys, xs = [.ref p] ∧ (SqL K H p ys ∨ SqT K H p ys) ∧ Q (.int ys.length) H
theorem call_lenS {X : Cx} : CallR X (.builtin "len") (rLenS X.K) := call_len_seq
/-- what the top has written besides the defs -/
structure Txt (K : PySem.W.Frag) (mg : Str → Option Value) (CN : Addr) : Prop where
  B : Blt mg
  gN : mg "Nothing" = some (.ref CN)
  xN : PySem.W.excIn K CN [.type "ValueError", .type "Exception", .type "BaseException", .type "object"] "ValueError.__new__" = true
  kN : PySem.W.keepIn K (.ref CN) = true
  bN : PySem.W.subIn K (.ref CN) (.type "BaseException") = some true
  tN : PySem.W.typeIn K (.ref CN) = some (.type "type")
  mt : ∃ t, mg "MOST_TERMS" = some (.int 400 t)
  mx : ∃ t, mg "MOST_TAKEN" = some (.int 8 t)
  gT : ∃ CT, mg "TooLarge" = some (.ref CT)
/-- a dict that tidied takes -/
structure TidOk (D : Pol) : Prop where
  nd : (D.map (·.1)).Nodup
  nm : norm D ≤ 400
  ln : D.length ≤ 1000
  sm : ∀ e ∈ D, -(10 ^ 300 : Int) < e.1.sum ∧ e.1.sum < 10 ^ 300
def spTid (CN : Addr) : Sp := fun vs H Q E => ∃ (d : Addr) (D : Pol) (pw : V) (n : Nat), vs = [.ref d, pw] ∧ H d = some (.dT (encD D)) ∧ TidOk D ∧ (D ≠ [] → pw = .int (n : Nat)) ∧
  ((∀ e ∈ D, e.1.length = n) → ∀ H' a, Same H H' → PolAt H' a (tidyP D) → Q (.ref a) H') ∧ (¬ (∀ e ∈ D, e.1.length = n) → ∀ H', Same H H' → E (.ref CN) none H')
section
variable {P : Program} {w : World} {K : PySem.W.Frag} {mg : Str → Option Value} {base : Heap} {CN : Addr}
theorem scT : FnScope ["terms", "pots", "found", "powers", "factor"] ["terms", "pots"] (defScope sTidied) := ⟨rfl, rfl, rfl, by decide +kernel, rfl, by decide +kernel, by decide +kernel⟩
theorem ok_tidied {f : Addr} {fd : FuncData} (F : Fun K "tidied" "tidied" sTidied f fd) (T : Txt K mg CN) (G : Fn P w K mg base CX0 1 "is_small" ["integer"] spIsSmall) : FnOk P w K mg base (L2.CX P w) 2 f fd ["terms", "pots"] (spTid CN) := by
  refine F.okX scT (fun vs H Q E h => ?_) (fun cdv A outer s H vs Q E hr h => ?_)
  · obtain ⟨d, D, pw, n, rfl, _⟩ := h
    rfl
  · obtain ⟨d, D, pw, n, rfl, hd, tk, hpv, kQ, kE⟩ := h
    obtain ⟨t4, m4⟩ := T.mt
    refine ⟨_, pss_cons (ps_if (pt_not (pt_val (pe_callB (cr_all rfl) (by rfl) T.B.all (by decide +kernel) (pa_cons (pe_lock (pe_lc (own := [("powers", 3)]) (g := gName 3) (tt := tYes) rfl scT.nd (pi_keys (pv 0)) (blkOk_by (own := [("powers", 3)]) (N := ["terms", "pots", "found", "powers", "factor"]) (sc := defScope sTidied) (by decide +kernel))
        (fun _ _ _ _ _ => pg_name (i := 3) scT.nd rfl (Or.inl rfl)) (fun _ _ _ _ _ => pts_nil) (fun _ _ _ _ _ => pe_cmpR op_eq (pe_callB (r := rLenS K) call_lenS (by rfl) T.B.len PySem.boot_len (pa_cons (pv 3) pa_nil)) (pv 1) (nomark _)))) pa_nil))))
        (pss_one (ps_raise rfl (takes_of rfl rfl rfl rfl) (pmk_own0 PySem.F.excBase_ValueError T.xN T.gN T.kN (raises_own T.bN T.tN) (by rfl)))) pss_nil)
      (pss_cons (ps_set (i := 2) scT.nd rfl (Or.inl rfl) (pe_callTy call_tupleP (by rfl) T.B.tuple (by decide +kernel) (pa_cons (pe_callB cr_sortedD (by rfl) T.B.sorted (by decide +kernel) (pa_cons (pe_lock
        (pe_lc (own := [("powers", 3), ("factor", 4)]) (g := gTup K 2 (gCons (gName 3) (gCons (gName 4) gNil))) rfl scT.nd (pi_itemsT (pv 0)) (blkOk_by (own := [("powers", 3), ("factor", 4)]) (N := ["terms", "pots", "found", "powers", "factor"]) (sc := defScope sTidied) (by decide +kernel))
        (fun _ _ _ _ _ => pg_tup rfl (pgs_cons (pg_name (i := 3) scT.nd rfl (.inl rfl) (.inr rfl)) (pgs_cons (pg_name (i := 4) scT.nd rfl (.inl rfl) (.inr rfl)) pgs_nil))) (fun _ _ _ _ _ => pts_one (pt_cmpR op_ne (pv 4) pe_int (nomark _))) (fun _ _ _ _ _ => pe_tup (pa_cons (pv 3) (pa_cons (pv 4) pa_nil))))) pa_nil)) pa_nil)))
      (pss_cons (ps_if (pt_cmpR op_gt (pe_callB (r := rLenS K) call_lenS (by rfl) T.B.len PySem.boot_len (pa_cons (pv 2) pa_nil)) (pe_glob (v := .int 400) rfl m4 ⟨_, rfl⟩) (nomark _)) (pss_one ps_never) pss_nil)
      (pss_cons (ps_if (pt_not (pt_val (pe_callB (cr_all rfl) (by rfl) T.B.all (by decide +kernel) (pa_cons (pe_lc (own := [("powers", 3), ("factor", 4)]) (g := gTup K 2 (gCons (gName 3) (gCons (gName 4) gNil))) (tt := tYes) rfl scT.nd (pi_tup (pv 2)) (blkOk_by (own := [("powers", 3), ("factor", 4)]) (N := ["terms", "pots", "found", "powers", "factor"]) (sc := defScope sTidied) (by decide +kernel))
        (fun _ _ _ _ _ => pg_tup rfl (pgs_cons (pg_name (i := 3) scT.nd rfl (.inl rfl) (.inr rfl)) (pgs_cons (pg_name (i := 4) scT.nd rfl (.inl rfl) (.inr rfl)) pgs_nil))) (fun _ _ _ _ _ => pts_nil)
        (fun _ _ _ _ _ => pe_and (pe_fn G hr (by rfl) pass0 (pa_cons (pv 4) pa_nil)) (pe_one (pe_fn G hr (by rfl) pass0 (pa_cons (pe_callB (r := rSumT K) (cr_sumT rfl) (by rfl) T.B.sum boot_sum (pa_cons (pv 3) pa_nil)) pa_nil))))) pa_nil)))) (pss_one ps_never) pss_nil)
      (pss_one (ps_ret (pv 2)))))), ?_⟩
    have hnd : d = d := rfl
    refine ⟨d, .dT (encD D), hd, trivial, fun od => ⟨_, rfl, d, od, rfl, .inr ⟨encD D, upd_same, fun Dn hDn => ?_⟩⟩⟩
    have nDd : Dn ≠ d := fun z => by rw [z, upd_same] at hDn; cases hDn
    have hDn' : H Dn = none := by rw [upd_ne nDd] at hDn; exact hDn
    refine lc_gen (n := D.length) (fun i H' => (∀ b o, b ≠ d → H b = some o → H' b = some o) ∧ H' d = some (.frz od (.dT (encD D))) ∧ H' Dn = some (.lst ((D.take i).map fun e => V.bl (decide (e.1.length = n))))) ?_ ?_ ?_ ?_ ?_
    · refine ⟨fun b o hb e => ?_, by rw [upd_ne (Ne.symm nDd), upd_same], by rw [upd_same]; rfl⟩
      rw [upd_ne (ne_of_none e hDn'), upd_ne hb]
      exact e
    · rintro i H' hi ⟨k1, k2, k3⟩
      exact ⟨k2, by rw [length_encD]; exact hi⟩
    · rintro H' ⟨k1, k2, k3⟩
      exact ⟨k2, by rw [length_encD]; exact Nat.le_refl _⟩
    · rintro i x H' H'' hi ⟨k1, k2, k3⟩ ⟨rfl, kk, v, q, h1, rfl, h3⟩
      obtain ⟨e, he, rfl, rfl⟩ := get_enc h1
      have hne : D ≠ [] := fun z => by rw [z] at he; simp at he
      rw [kEnc_kV] at h3
      have hw := hpv hne
      refine ⟨rfl, tYes_i (iteT ⟨_, rfl, q, _, rfl, .inr (SqT.of h3), ?_⟩)⟩
      subst hw
      refine ⟨_, rfl, rfl, _, k3, small1000 (by rw [List.length_map, List.length_take]; have := tk.ln; omega), fun b o hb e' => ?_, ?_, ?_⟩
      · rw [upd_ne (ne_of_none e' hDn')]
        exact k1 b o hb e'
      · rw [upd_ne (Ne.symm nDd)]
        exact k2
      · rw [upd_same, take_more' he, List.map_append]
        have e1 : decide (V.int ((e.1.map V.int).length : Nat) = V.int (n : Nat)) = decide (e.1.length = n) := by
          rw [List.length_map]
          by_cases hh : e.1.length = n
          · simp [hh]
          · have : ¬ V.int (e.1.length : Nat) = V.int (n : Nat) := fun z => hh (by injection z with z; exact Int.ofNat.inj z)
            simp [hh, this]
        rw [e1]
        rfl
    · rintro H' ⟨k1, k2, k3⟩
      rw [List.take_length] at k3
      refine ⟨k2, Dn, D.map fun e => decide (e.1.length = n), rfl, SqL.of (by rw [upd_ne nDd, k3, List.map_map]; rfl), ?_⟩
      have hall : ((D.map fun e => decide (e.1.length = n)).all id = true) ↔ ∀ e ∈ D, e.1.length = n := by simp
      have sH1 : Same H (upd H' d (.dT (encD D))) := fun b o e => by
        by_cases hb : b = d
        · rw [hb, upd_same, ← hd, ← hb]; exact e
        · rw [upd_ne hb]; exact k1 b o hb e
      generalize upd H' d (.dT (encD D)) = H1 at sH1
      by_cases hq : ∀ e ∈ D, e.1.length = n
      · rw [hall.mpr hq]
        refine ⟨_, rfl, iteF ?_⟩
        have hd1 : H1 d = some (.dT (encD D)) := sH1 d _ hd
        -- found = tuple(sorted([(powers, factor) for powers, factor in terms.items() if factor != 0]))
        refine ⟨d, .dT (encD D), hd1, trivial, fun od2 => ⟨_, rfl, d, od2, encD D, rfl, upd_same, fun D2 hD2 => ?_⟩⟩
        have nD2 : D2 ≠ d := fun z => by rw [z, upd_same] at hD2; cases hD2
        have hD2' : H1 D2 = none := by rw [upd_ne nD2] at hD2; exact hD2
        refine lc_gen (n := D.length) (fun i H' => (∀ b o, b ≠ d → H1 b = some o → H' b = some o) ∧ H' d = some (.frz od2 (.dT (encD D))) ∧ ∃ ts : List Addr, H' D2 = some (.lst (ts.map V.ref)) ∧ Paired (PAt H') ts ((D.take i).filter fun e => e.2 != 0)) ?_ ?_ ?_ ?_ ?_
        · refine ⟨fun b o hb e => ?_, by rw [upd_ne (Ne.symm nD2), upd_same], [], by rw [upd_same]; rfl, .nil⟩
          rw [upd_ne (ne_of_none e hD2'), upd_ne hb]
          exact e
        · rintro i H' hi ⟨k1, k2, k3⟩
          exact ⟨k2, by rw [length_encD]; exact hi⟩
        · rintro H' ⟨k1, k2, k3⟩
          exact ⟨k2, by rw [length_encD]; exact Nat.le_refl _⟩
        · rintro i x H' H'' hi ⟨k1, k2, ts, k3, k4⟩ ⟨T1, q, kk, v, h1, rfl, hT1, hq1, rfl⟩
          obtain ⟨e, he, rfl, rfl⟩ := get_enc h1
          rw [kEnc_kV] at hq1
          have nT : ∀ b o, H' b = some o → b ≠ T1 := fun b o e => ne_of_none e hT1
          have sT : Same H' (upd H' T1 (.tup [.ref q, .int e.2])) := fun b o e => by rw [upd_ne (nT b o e)]; exact e
          have hlen : ts.length ≤ 1000 := by
            have h1 := Paired.length k4
            have h2 : ((D.take i).filter fun e => e.2 != 0).length ≤ (D.take i).length := List.length_filter_le _ _
            rw [List.length_take] at h2
            have := tk.ln
            omega
          refine ⟨T1, _, rfl, SqT.of upd_same, rfl, _, _, rfl, _, _, rfl, rfl, rfl, _, rfl, rfl, _, rfl, ?_⟩
          have dne : (!decide (V.int e.2 = V.int 0)) = (e.2 != 0) := by
            by_cases hz : e.2 = 0
            · simp [hz]
            · have : ¬ V.int e.2 = V.int 0 := fun z => hz (by injection z)
              simp [hz, this]
          rw [dne]
          by_cases hz : e.2 = 0
          · have hb : (e.2 != 0) = false := by simp [hz]
            rw [hb]
            refine iteF ⟨fun b o hb e' => sT b o (k1 b o hb e'), sT _ _ k2, ts, sT _ _ k3, ?_⟩
            rw [take_more' he, List.filter_append]
            have : List.filter (fun e : List Int × Int => e.2 != 0) [e] = [] := by simp [hz]
            rw [this, List.append_nil]
            exact paired_imp (fun t x hx => hx.ext (.of sT)) k4
          · have hb : (e.2 != 0) = true := by simp [hz]
            rw [hb]
            refine iteT ⟨_, rfl, _, rfl, by show 2 ≤ sizeLine; decide, fun t nt => ?_⟩
            have nt' : H' t = none := by
              cases ht : H' t with
              | none => rfl
              | some o => rw [sT t o ht] at nt; cases nt
            have sT2 : Same H' (upd (upd H' T1 (.tup [.ref q, .int e.2])) t (.tup [.ref q, .int e.2])) := fun b o e' => by
              rw [upd_ne (ne_of_none (sT b o e') nt)]; exact sT b o e'
            have nD2t : D2 ≠ t := ne_of_none k3 nt'
            refine ⟨ts.map V.ref, sT2 _ _ k3, small1000 (by rw [List.length_map]; exact hlen), fun b o hb e' => ?_, ?_, ts ++ [t], ?_, ?_⟩
            · rw [upd_ne (ne_of_none e' hD2')]
              exact sT2 b o (k1 b o hb e')
            · rw [upd_ne (Ne.symm nD2)]
              exact sT2 _ _ k2
            · rw [upd_same, List.map_append]
              rfl
            · rw [take_more' he, List.filter_append]
              have : List.filter (fun e : List Int × Int => e.2 != 0) [e] = [e] := by simp [hz]
              rw [this]
              have up : ∀ {a : Addr} {x : HO}, (∀ l, x ≠ .lst l) → upd (upd H' T1 (.tup [.ref q, .int e.2])) t (.tup [.ref q, .int e.2]) a = some x → upd (upd (upd H' T1 (.tup [.ref q, .int e.2])) t (.tup [.ref q, .int e.2])) D2 (.lst (ts.map V.ref ++ [.ref t])) a = some x := by
                intro a x hx ha
                by_cases hb : a = D2
                · rw [hb, sT2 _ _ k3] at ha
                  cases ha
                  exact absurd rfl (hx _)
                · rw [upd_ne hb]; exact ha
              refine paired_snoc ?_ (paired_imp (fun a x hx => ?_) k4)
              · exact ⟨q, up (fun l z => by cases z) upd_same, up (fun l z => by cases z) (sT2 _ _ hq1)⟩
              · obtain ⟨q', g1, g2⟩ := hx
                exact ⟨q', up (fun l z => by cases z) (sT2 _ _ g1), up (fun l z => by cases z) (sT2 _ _ g2)⟩
        · rintro H' ⟨k1, k2, ts, k3, k4⟩
          rw [List.take_length] at k4
          have sH2 : Same H1 (upd H' d (.dT (encD D))) := fun b o e => by
            by_cases hb : b = d
            · rw [hb, upd_same, ← hd1, ← hb]; exact e
            · rw [upd_ne hb]; exact k1 b o hb e
          have k3' : upd H' d (.dT (encD D)) D2 = some (.lst (ts.map V.ref)) := by rw [upd_ne nD2]; exact k3
          have k4' : Paired (PAt (upd H' d (.dT (encD D)))) ts (D.filter fun e => e.2 != 0) := paired_imp (fun t x hx => by
            obtain ⟨q', g1, g2⟩ := hx
            exact ⟨q', by rw [upd_ne (ne_of g1 k2 (by intro z; cases z))]; exact g1, by rw [upd_ne (ne_of g2 k2 (by intro z; cases z))]; exact g2⟩) k4
          refine ⟨k2, ?_⟩
          generalize upd H' d (.dT (encD D)) = H2 at sH2 k3' k4'
          refine ⟨D2, ts.map V.ref, (D.filter fun e => e.2 != 0).map encE, rfl, SqL.of k3', dpPairs k4', W.AllAlike.of alikeE, W.Sortable.tuples fun b => ⟨_, _, rfl⟩, fun x hx => ?_, fun p np => ?_⟩
          · obtain ⟨e, _, rfl⟩ := List.mem_map.mp hx
            rw [depthE]
            have := hr.units
            show (A.deeper _).units + 2 + 2 < cLine
            omega
          obtain ⟨ts', e1, k5⟩ := sort_paired k4'
          rw [e1]
          refine ⟨p, _, rfl, SqL.of upd_same, fun l o nl hod => ?_⟩
          have nl' : H2 l = none := by
            by_cases hb : l = p
            · rw [hb]; exact np
            · rw [upd_ne hb] at nl; exact nl
          have sH3 : Same H2 (upd (upd H2 p (.lst (ts'.map V.ref))) l (.frz o (.tup (ts'.map V.ref)))) := fun b o e => by
            rw [upd_ne (ne_of_none e nl'), upd_ne (ne_of_none e np)]; exact e
          have hl3 : upd (upd H2 p (.lst (ts'.map V.ref))) l (.frz o (.tup (ts'.map V.ref))) l = some (.frz o (.tup (ts'.map V.ref))) := upd_same
          have k6 : Paired (PAt (upd (upd H2 p (.lst (ts'.map V.ref))) l (.frz o (.tup (ts'.map V.ref))))) ts' (tidyP D) := paired_imp (fun t x hx => hx.ext (.of sH3)) k5
          have sA : Same H (upd (upd H2 p (.lst (ts'.map V.ref))) l (.frz o (.tup (ts'.map V.ref)))) := fun b o e => sH3 b o (sH2 b o (sH1 b o e))
          generalize upd (upd H2 p (.lst (ts'.map V.ref))) l (.frz o (.tup (ts'.map V.ref))) = H3 at hl3 k6 sA
          have hlt : (ts'.map V.ref).length = (tidyP D).length := by rw [List.length_map]; exact Paired.length k6
          have hnz : ∀ e ∈ tidyP D, e.2 ≠ 0 := fun e he => (mem_tidy.mp he).2
          have h400 : (tidyP D).length ≤ 400 := Nat.le_trans (length_norm hnz) (Nat.le_trans (norm_tidy D) tk.nm)
          -- if len(found) > MOST_TERMS
          refine ⟨_, rfl, l, _, rfl, .inr (.inl (.inr ⟨o, hl3⟩)), _, _, rfl, rfl, false, congrArg V.bl (decide_eq_false (show ¬ (400 : Int) < ((ts'.map V.ref).length : Nat) by rw [hlt]; omega)), iteF ?_⟩
          -- if not all([is_small(factor) and is_small(sum(powers)) ..])
          refine ⟨_, rfl, l, rfl, ⟨_, .inl (.inr ⟨o, hl3⟩)⟩, fun D3 hD3 => lc_tup (K := K) (a := l) (xs := ts'.map V.ref) (fun i H' => Same H3 H' ∧ H' D3 = some (.lst (List.replicate i (V.bl true)))) ⟨fun b o e => by rw [upd_ne (ne_of_none e hD3)]; exact e, upd_same⟩
            (fun i H' _ ⟨s3, _⟩ => .inl (.inr ⟨o, s3 _ _ hl3⟩)) ?_ ?_⟩
          · rintro i x H' hx ⟨s3, h3⟩
            rw [List.getElem?_map] at hx
            obtain ⟨t, ht, rfl⟩ := Option.map_eq_some_iff.mp hx
            obtain ⟨e, he, q, g1, g2⟩ := paired_at k6 ht
            have hmem : e ∈ tidyP D := List.mem_of_getElem? he
            have hsm := tk.sm e (mem_tidy.mp hmem).1
            have hn : e.2.natAbs ≤ 400 := Nat.le_trans (norm_mem hmem) (Nat.le_trans (norm_tidy D) tk.nm)
            have hlo : -(10 ^ 300 : Int) < e.2 ∧ e.2 < 10 ^ 300 := by
              have hb : (400 : Int) < 10 ^ 300 := by decide +kernel
              generalize (10 : Int) ^ 300 = m at hb
              omega
            have hil : i < 1000 := by
              have h1 := (List.getElem?_eq_some_iff.mp ht).1
              rw [List.length_map] at hlt
              omega
            refine ⟨t, _, rfl, SqT.of (s3 _ _ g1), rfl, _, _, rfl, _, _, rfl, rfl, rfl, tYes_i (iteT ⟨_, rfl, e.2, rfl, hlo.1, hlo.2, true, rfl, iteT ⟨_, rfl, q, e.1, rfl, SqT.of (s3 _ _ g2), e.1.sum, rfl, hsm.1, hsm.2, _, h3, small1000 (by rw [List.length_replicate]; omega), fun b o' e' => ?_, ?_⟩⟩)⟩
            · rw [upd_ne (ne_of_none e' hD3)]
              exact s3 b o' e'
            · rw [upd_same, List.replicate_succ']
          · rintro H' ⟨s3, h3⟩
            have ha : (List.replicate (ts'.map V.ref).length true).all id = true := by simp
            refine ⟨D3, List.replicate (ts'.map V.ref).length true, rfl, SqL.of (by rw [h3, List.map_replicate]), ?_⟩
            rw [ha]
            exact ⟨_, rfl, iteF ⟨_, rfl, kQ hq _ _ (fun b o' e' => s3 b o' (sA b o' e')) ⟨o, ts', s3 _ _ hl3, hod, paired_imp (fun t x hx => hx.ext (.of s3)) k6⟩⟩⟩
      · have hf : (D.map fun e => decide (e.1.length = n)).all id = false := by
          cases h : (D.map fun e => decide (e.1.length = n)).all id with
          | false => rfl
          | true => exact absurd (hall.mp h) hq
        rw [hf]
        exact ⟨_, rfl, iteT (kE hq _ sH1)⟩
end
end K64
namespace K64
open PySem PySem.Spec PyProof.Rows L2

/-! ### (0,) * e -/
theorem rep_zeros : ∀ n : Nat, (List.replicate n [V.int 0]).flatten = (zeros n).map V.int
  | 0 => rfl
  | n + 1 => by
    rw [List.replicate_succ, List.flatten_cons, rep_zeros n]
    rfl
theorem same_laid {H : Hp} {p : Addr} {o : HO} (h : H p = none) : Same H (upd H p o) := fun b u e => by rw [upd_ne (ne_of_none e h)]; exact e
theorem same_tr {H1 H2 H3 : Hp} (a : Same H1 H2) (b : Same H2 H3) : Same H1 H3 := fun x o e => b x o (a x o e)
theorem same_none {H1 H2 : Hp} (a : Same H1 H2) {p : Addr} (h : H2 p = none) : H1 p = none := by
  cases e : H1 p with
  | none => rfl
  | some o => rw [a p o e] at h; cases h
theorem zeros_i {K : PySem.W.Frag} {t : Addr} {H1 : Hp} {Q : VK} {n : Nat} (ht : H1 t = some (.tup [.int 0])) (hn : n ≤ 1000) (h : ∀ q H2, Same H1 H2 → H2 q = some (.tup ((zeros n).map V.int)) → Q (.ref q) H2) : rRepA K (.ref t) (.int (n : Nat)) H1 Q := by
  refine ⟨t, n, _, rfl, rfl, SqT.of ht, by simp, by omega, by omega, by show 1 ≤ 1000; decide, fun h1 => ?_, fun h1 p np => ?_⟩
  · have : n = 1 := by omega
    subst this
    exact h t H1 (fun _ _ e => e) ht
  · refine h p _ (same_laid np) ?_
    rw [upd_same, Int.toNat_natCast, rep_zeros]
/-! ### data of polynomials -/
theorem lay_ints : ∀ l : List Int, PyData.canLayAll0 (l.map .int) = true
  | [] => by simp [PyData.canLayAll0]
  | a :: l => by
    show PyData.canLayAll0 (.int a :: l.map .int) = true
    simp [PyData.canLayAll0, PyData.canLay0, lay_ints l]
theorem shapedE (e : List Int × Int) : SeqAt.shaped (encE e) = true := by
  have h := depthE e
  show ((encE e).canLay0 && decide ((encE e).depth ≤ 64)) = true
  rw [Bool.and_eq_true]
  refine ⟨?_, decide_eq_true (by omega)⟩
  simp [encE, PyData.canLay0, PyData.canLayAll0, lay_ints]
def dPol (p : Pol) : PyData := .tuple (p.map encE)
theorem lay_pol : ∀ p : Pol, PyData.canLayAll0 (p.map encE) = true
  | [] => by simp [PyData.canLayAll0]
  | e :: p => by
    show PyData.canLayAll0 (encE e :: p.map encE) = true
    have h1 : (encE e).canLay0 = true := by simp [encE, PyData.canLay0, PyData.canLayAll0, lay_ints]
    simp [PyData.canLayAll0, h1, lay_pol p]
theorem depth_pol : ∀ p : Pol, PyData.depthAll (p.map encE) ≤ 2
  | [] => by simp [PyData.depthAll]
  | e :: p => by
    have h1 := depth_pol p
    have h2 := depthE e
    simp only [List.map_cons, PyData.depthAll]
    omega
theorem shapedP (p : Pol) : SeqAt.shaped (dPol p) = true := by
  have h := depth_pol p
  show ((dPol p).canLay0 && decide ((dPol p).depth ≤ 64)) = true
  rw [Bool.and_eq_true]
  refine ⟨?_, decide_eq_true ?_⟩
  · simp [dPol, PyData.canLay0, lay_pol]
  · simp only [dPol, PyData.depth]
    omega
theorem eqvE (a b : List Int × Int) : PyData.eqv (encE a) (encE b) = decide (a = b) := by
  have h : PyData.eqv (encE a) (encE b) = (decide (a.1 = b.1) && (a.2 == b.2)) := by
    simp [encE, PyData.eqv, PyData.eqvAll, eqv_ints]
  rw [h]
  obtain ⟨a1, a2⟩ := a
  obtain ⟨b1, b2⟩ := b
  by_cases h1 : a1 = b1 <;> by_cases h2 : a2 = b2 <;> simp [h1, h2]
theorem eqvP : ∀ p q : Pol, PyData.eqv (dPol p) (dPol q) = decide (p = q)
  | [], [] => by simp [dPol, PyData.eqv, PyData.eqvAll]
  | [], _ :: _ => by simp [dPol, PyData.eqv, PyData.eqvAll]
  | _ :: _, [] => by simp [dPol, PyData.eqv, PyData.eqvAll]
  | a :: p, b :: q => by
    have ih := eqvP p q
    have e1 : PyData.eqv (dPol (a :: p)) (dPol (b :: q)) = (PyData.eqv (encE a) (encE b) && PyData.eqv (dPol p) (dPol q)) := by
      simp [dPol, PyData.eqv, W.eqv_all_cons]
    rw [e1, ih, eqvE]
    by_cases h1 : a = b <;> by_cases h2 : p = q <;> simp [h1, h2]
theorem PolAt.dp {K : PySem.W.Frag} {H : Hp} {a : Addr} {p : Pol} (h : PolAt H a p) : Dp K H (.ref a) (dPol p) := by
  obtain ⟨ts, h1, h2⟩ := h.seq (K := K)
  exact .tup h1 (dpPairs h2)
theorem dp_nil {K : PySem.W.Frag} {H : Hp} {a : Addr} (h : H a = some (.tup [])) : Dp K H (.ref a) (dPol []) := .tup (SqT.of h) .nil
theorem decide_not {p : Prop} [Decidable p] : (!decide p) = decide (¬ p) := by by_cases h : p <;> simp [h]
section
variable {P : Program} {w : World} {K : PySem.W.Frag} {mg : Str → Option Value} {base : Heap} {CN : Addr}
/-! ### number -/
def spNum : Sp := fun vs H Q _ => ∃ (c : Int) (n : Nat), vs = [.int c, .int (n : Nat)] ∧ n ≤ 10 ∧ c.natAbs ≤ 400 ∧ ∀ H' a, Same H H' → PolAt H' a (numP n c) → Q (.ref a) H'
theorem scNu : FnScope ["told", "pots"] ["told", "pots"] (defScope sNumber) := ⟨rfl, rfl, rfl, by decide +kernel, rfl, by decide +kernel, by decide +kernel⟩
theorem ok_number {f : Addr} {fd : FuncData} (F : Fun K "number" "number" sNumber f fd) (G : Fn P w K mg base (L2.CX P w) 2 "tidied" ["terms", "pots"] (spTid CN)) : FnOk P w K mg base (L2.CX P w) 3 f fd ["told", "pots"] spNum := by
  refine F.okX scNu (fun vs H Q E h => ?_) (fun cdv A outer s H vs Q E hr h => ?_)
  · obtain ⟨c, n, rfl, _⟩ := h
    rfl
  · obtain ⟨c, n, rfl, hn, hc, k⟩ := h
    have hu : (A.deeper (envOfC "number" (defScope sNumber) s.heap.objs.size f cdv)).units + 1 < cLine := hu_of hr
    refine ⟨_, pss_one (ps_ret (pe_fn G hr (by rfl) (passT (takes_of rfl rfl rfl rfl)) (pa_cons (pe_dispT hu (pe_op op_repA (pe_tup (pa_cons pe_int pa_nil)) (pv 1)) (pv 0)) (pa_cons (pv 1) pa_nil)))), ?_⟩
    intro p np
    have s0 : Same H (upd H p (.dT [])) := same_laid np
    refine ⟨by show 1 ≤ sizeLine; decide, fun t nt => ⟨_, rfl, zeros_i upd_same (by omega) fun q H2 s2 hq => ⟨_, rfl, ?_⟩⟩⟩
    have s1 : Same (upd H p (.dT [])) H2 := same_tr (same_laid nt) s2
    have hp : H2 p = some (.dT []) := s1 _ _ upd_same
    refine ⟨hp, q, kEnc (zeros n), rfl, by rw [kEnc_kV]; exact hq, _, rfl, p, [(zeros n, c)], _, n, rfl, upd_same, ?_, fun _ => rfl, fun _ H' a sa pa => ?_, fun hx => absurd (fun e he => ?_) hx⟩
    · have hb : (0 : Int) < 10 ^ 300 := by decide +kernel
      refine ⟨by simp, by simpa [norm] using hc, by show 1 ≤ 1000; decide, fun e he => ?_⟩
      rw [List.mem_singleton] at he
      subst he
      show -(10 ^ 300 : Int) < (zeros n).sum ∧ (zeros n).sum < 10 ^ 300
      rw [sum_zeros]
      generalize (10 : Int) ^ 300 = m at hb
      omega
    · refine k H' a (fun b o e => ?_) pa
      have nb : b ≠ p := ne_of_none e np
      exact sa b o (by rw [upd_ne nb]; exact s1 b o (s0 b o e))
    · rw [List.mem_singleton] at he
      subst he
      simp [zeros]
end
end K64
namespace K64
open PySem PySem.Spec PyProof.Rows L2

theorem seqT_same {K : PySem.W.Frag} {H H' : Hp} {a : Addr} {xs : List V} (s : Same H H') (h : SqT K H a xs) : SqT K H' a xs := by
  rcases h with (h | ⟨o, h⟩) | h
  · exact .inl (.inl (s _ _ h))
  · exact .inl (.inr ⟨o, s _ _ h⟩)
  · exact .inr h
theorem zeros_k {K : PySem.W.Frag} {t : Addr} {H1 : Hp} {Q : VK} {n : Nat} {k : Int} (hk : k = (n : Nat)) (ht : H1 t = some (.tup [.int 0])) (hn : n ≤ 1000) (h : ∀ q H2, Same H1 H2 → H2 q = some (.tup ((zeros n).map V.int)) → Q (.ref q) H2) : rRepA K (.ref t) (.int k) H1 Q := by
  subst hk
  exact zeros_i ht hn h
theorem cat_i {K : PySem.W.Frag} {a b : Addr} {H1 : Hp} {Q : VK} {xs ys : List V} (ha : H1 a = some (.tup xs)) (hb : H1 b = some (.tup ys)) (hz : xs.length + ys.length ≤ 1000) (h : ∀ q H2, Same H1 H2 → H2 q = some (.tup (xs ++ ys)) → Q (.ref q) H2) : rCatA K (.ref a) (.ref b) H1 Q := by
  refine ⟨a, b, xs, ys, rfl, rfl, SqT.of ha, SqT.of hb, by rw [sizeLine_eq]; omega, fun e => ?_, fun _ e => ?_, fun _ _ p np => ?_⟩
  · subst e
    exact h b H1 (fun _ _ e => e) (by simpa using hb)
  · subst e
    exact h a H1 (fun _ _ e => e) (by simpa using ha)
  · exact h p _ (same_laid np) upd_same
section
variable {P : Program} {w : World} {K : PySem.W.Frag} {mg : Str → Option Value} {base : Heap} {CN : Addr}
/-! ### count_of -/
def spCnt (CN : Addr) : Sp := fun vs H Q E => ∃ (i n : Nat), vs = [.int (i : Nat), .int (n : Nat)] ∧ n ≤ 10 ∧ (i < n → ∀ H' a, Same H H' → PolAt H' a (cntP n i) → Q (.ref a) H') ∧ (¬ i < n → ∀ H', Same H H' → E (.ref CN) none H')
theorem scCo : FnScope ["pot", "pots"] ["pot", "pots"] (defScope sCountOf) := ⟨rfl, rfl, rfl, by decide +kernel, rfl, by decide +kernel, by decide +kernel⟩
theorem ok_countof {f : Addr} {fd : FuncData} (F : Fun K "count_of" "count_of" sCountOf f fd) (T : Txt K mg CN) (G : Fn P w K mg base CX0 2 "is_count" ["thing"] spIsCount) : FnOk P w K mg base (L2.CX P w) 3 f fd ["pot", "pots"] (spCnt CN) := by
  refine F.okX scCo (fun vs H Q E h => ?_) (fun cdv A outer s H vs Q E hr h => ?_)
  · obtain ⟨i, n, rfl, _⟩ := h
    rfl
  · obtain ⟨i, n, rfl, hn, kQ, kE⟩ := h
    refine ⟨_, pss_cons (ps_if (PW.pt (pw_or (pt_not (pt_val (pe_fn G hr (by rfl) pass0 (pa_cons (pv 0) pa_nil)))) (pw_or1 (pt_cmpR op_ge (pv 0) (pv 1) (nomark _)))))
        (pss_one (ps_raise rfl (takes_of rfl rfl rfl rfl) (pmk_own0 PySem.F.excBase_ValueError T.xN T.gN T.kN (raises_own T.bN T.tN) (by rfl)))) pss_nil)
      (pss_one (ps_ret (pe_tupP (pa_cons (pe_tup (pa_cons (pe_op op_catA (pe_op op_catA (pe_op op_repA (pe_tup (pa_cons pe_int pa_nil)) (pv 0)) (pe_tup (pa_cons pe_int pa_nil))) (pe_op op_repA (pe_tup (pa_cons pe_int pa_nil)) (pe_op op_sub (pe_op op_sub (pv 1) (pv 0)) pe_int))) (pa_cons pe_int pa_nil))) pa_nil)))), ?_⟩
    refine ⟨_, rfl, (i : Nat), rfl, ?_⟩
    rw [decide_eq_true (show (0 : Int) ≤ (i : Nat) by omega)]
    refine ⟨_, rfl, iteF ⟨_, rfl, _, rfl, _, _, rfl, rfl, _, rfl, ?_⟩⟩
    by_cases hi : i < n
    · rw [decide_eq_false (show ¬ ((n : Nat) : Int) ≤ (i : Nat) by omega)]
      refine iteF ?_
      have one : (1 : Nat) ≤ sizeLine := by decide
      have two : (2 : Nat) ≤ sizeLine := by decide
      refine ⟨one, fun t1 n1 => ⟨_, rfl, zeros_i upd_same (by omega) fun q1 H1 s1 hq1 => ⟨one, fun t2 n2 => ?_⟩⟩⟩
      have s1' : Same H H1 := same_tr (same_laid n1) s1
      have s2 : Same H1 (upd H1 t2 (.tup [.int 1])) := same_laid n2
      refine cat_i (s2 _ _ hq1) upd_same (by simp [zeros]; omega) fun q3 H3 s3 hq3 => ⟨one, fun t4 n4 => ⟨_, rfl, _, rfl, _, _, rfl, rfl, _, _, rfl, rfl, ?_⟩⟩
      have s4 : Same H3 (upd H3 t4 (.tup [.int 0])) := same_laid n4
      refine zeros_k (n := n - i - 1) (by omega) upd_same (by omega) fun q5 H5 s5 hq5 => ?_
      have hq3' := s5 _ _ (s4 _ _ hq3)
      refine cat_i hq3' hq5 (by simp [zeros]; omega) fun q6 H6 s6 hq6 => ⟨two, fun t7 n7 => ⟨one, fun a o na ho => ?_⟩⟩
      have sA : Same H H6 := same_tr s1' (same_tr s2 (same_tr s3 (same_tr s4 (same_tr s5 s6))))
      have s7 : Same H6 (upd H6 t7 (.tup [.ref q6, .int 1])) := same_laid n7
      have s8 : Same (upd H6 t7 (.tup [.ref q6, .int 1])) _ := same_laid (o := .frz o (.tup [.ref t7])) na
      refine kQ hi _ a (same_tr sA (same_tr s7 s8)) ⟨o, [t7], upd_same, ho, .cons ⟨q6, s8 _ _ upd_same, ?_⟩ .nil⟩
      have e : (unitK n i).map V.int = (zeros i).map V.int ++ [V.int 1] ++ (zeros (n - i - 1)).map V.int := by simp [unitK]
      rw [e]
      exact s8 _ _ (s7 _ _ hq6)
    · rw [decide_eq_true (show ((n : Nat) : Int) ≤ (i : Nat) by omega)]
      exact iteT (kE hi H (fun _ _ e => e))
end
end K64
namespace K64
open PySem PySem.Spec PyProof.Rows L2

section
variable {P : Program} {w : World} {K : PySem.W.Frag} {mg : Str → Option Value} {base : Heap} {CN : Addr}
/-! ### pots_of -/
def potsV (p q : Pol) : V := match p with
  | (k, _) :: _ => .int k.length
  | [] => match q with
    | (k, _) :: _ => .int k.length
    | [] => .non
theorem two_items {a b : V} : ∀ {i : Nat} {x : V}, [a, b][i]? = some x → (i = 0 ∧ x = a) ∨ (i = 1 ∧ x = b)
  | 0, x, h => .inl ⟨rfl, (Option.some.inj h).symm⟩
  | 1, x, h => .inr ⟨rfl, (Option.some.inj h).symm⟩
  | i + 2, x, h => by
    have h : ([] : List V)[i]? = some x := h
    rw [List.getElem?_nil] at h
    cases h
theorem potsV_l : ∀ {p q : Pol}, p ≠ [] → potsV p q = potsV p []
  | [], _, h => absurd rfl h
  | (k, c) :: r, _, _ => rfl
theorem potsV_r {p : Pol} : ∀ {q : Pol}, p = [] → q ≠ [] → potsV p q = potsV q []
  | [], _, h => absurd rfl h
  | (k, c) :: r, e, _ => by subst e; rfl
def spPotsOf : Sp := fun vs H Q _ => ∃ (a b : Addr) (p q : Pol), vs = [.ref a, .ref b] ∧ PolAt H a p ∧ PolAt H b q ∧ ∀ H', Same H H' → Q (potsV p q) H'
theorem scPo : FnScope ["one", "other", "told"] ["one", "other"] (defScope sPotsOf) := ⟨rfl, rfl, rfl, by decide +kernel, rfl, by decide +kernel, by decide +kernel⟩
theorem ok_potsof {f : Addr} {fd : FuncData} (F : Fun K "pots_of" "pots_of" sPotsOf f fd) (B : Blt mg) : FnOk P w K mg base CX0 1 f fd ["one", "other"] spPotsOf := by
  refine F.ok scPo (fun vs H Q E h => ?_) (fun cdv A outer s H vs Q E hr h => ?_)
  · obtain ⟨a, b, p, q, rfl, _⟩ := h
    rfl
  · obtain ⟨a, b, p, q, rfl, pa, pb, k⟩ := h
    refine ⟨_, pss_cons (ps_for PassesOwn.never rfl (pi_tup (pe_tup (pa_cons (pv 0) (pa_cons (pv 1) pa_nil)))) (pg_name (i := 2) scPo.nd rfl (Or.inl rfl))
        (pss_one (ps_if (pt_cmpR (op_neD hr.units) (pv 2) (pe_tup pa_nil) (nomark _)) (pss_one (ps_ret (pe_callB (r := rLenS K) call_lenS (by rfl) B.len PySem.boot_len (pa_cons (pe_ix ix_tup (pe_ix ix_tup (pv 2) pe_int (fun _ _ => rfl)) pe_int (fun _ _ => rfl)) pa_nil)))) pss_nil)))
      (pss_one (ps_ret pe_non)), ?_⟩
    refine ⟨_, rfl, _, rfl, by show 2 ≤ sizeLine; decide, fun t nt => ?_⟩
    have s0 : Same H (upd H t (.tup [.ref a, .ref b])) := same_laid nt
    refine ⟨t, rfl, ⟨_, SqT.of upd_same⟩, for_tup (K := K) (a := t) (xs := [.ref a, .ref b]) (fun i σ H' => (∃ v, σ = [some (.ref a), some (.ref b), v]) ∧ Same (upd H t (.tup [.ref a, .ref b])) H' ∧ (1 ≤ i → p = []) ∧ (2 ≤ i → q = [])) ⟨⟨none, rfl⟩, fun _ _ e => e, by omega, by omega⟩ (fun i σ H' _ ⟨_, s1, _⟩ => SqT.of (s1 _ _ upd_same)) ?_ ?_⟩
    · rintro i x σ H' hx ⟨⟨v, rfl⟩, s1, h1, h2⟩
      have key : ∃ (c : Addr) (r : Pol), x = .ref c ∧ PolAt H' c r ∧ (r ≠ [] → potsV p q = potsV r []) ∧ (r = [] → (1 ≤ i + 1 → p = []) ∧ (2 ≤ i + 1 → q = [])) := by
        rcases two_items hx with ⟨hi, hx2⟩ | ⟨hi, hx2⟩
        · subst hi hx2
          exact ⟨a, p, rfl, pa.same (same_tr s0 s1), fun hr => potsV_l hr, fun hr => ⟨fun _ => hr, fun h => absurd h (by omega)⟩⟩
        · subst hi hx2
          have hp := h1 (Nat.le_refl _)
          exact ⟨b, q, rfl, pb.same (same_tr s0 s1), fun hr => potsV_r hp hr, fun hr => ⟨fun _ => hp, fun _ => hr⟩⟩
      obtain ⟨c, r, rfl, pc, hne, hnil⟩ := key
      refine ⟨_, rfl, Nat.zero_le _, fun t2 n2 => ?_⟩
      have s2 : Same H' (upd H' t2 (.tup [])) := same_laid n2
      refine ⟨dPol r, dPol [], (pc.same s2).dp, dp_nil upd_same, shapedP _, shapedP _, ?_⟩
      rw [eqvP]
      by_cases hrn : r = []
      · have e : (!decide (r = [])) = false := by simp [hrn]
        rw [e]
        exact ⟨_, rfl, iteF ⟨⟨_, rfl⟩, same_tr s1 s2, hnil hrn⟩⟩
      · have e : (!decide (r = [])) = true := by simp [hrn]
        rw [e]
        obtain ⟨ts, hs, hp⟩ := (pc.same s2).seq (K := K)
        obtain ⟨t0, q0, kk, g0, g1, g2, hv0⟩ : ∃ (t0 q0 : Addr) (kk : List Int), atI (ts.map V.ref) 0 = some (.ref t0) ∧ (∃ cc : Int, (upd H' t2 (.tup [])) t0 = some (.tup [.ref q0, .int cc])) ∧ (upd H' t2 (.tup [])) q0 = some (.tup (kk.map V.int)) ∧ potsV r [] = .int (kk.length : Nat) := by
          cases hp with
          | nil => exact absurd rfl hrn
          | cons h0 _ =>
            obtain ⟨q0, g1, g2⟩ := h0
            exact ⟨_, q0, _, atI_nat (j := 0) rfl, ⟨_, g1⟩, g2, rfl⟩
        obtain ⟨cc, g1⟩ := g1
        have hv : potsV p q = .int ((kk.map V.int).length : Nat) := by rw [hne hrn, hv0, List.length_map]
        have fin : Q (.int ((kk.map V.int).length : Nat)) (upd H' t2 (.tup [])) := by
          rw [← hv]
          exact k _ (same_tr s0 (same_tr s1 s2))
        exact ⟨_, rfl, iteT ⟨_, rfl, c, _, 0, _, rfl, rfl, hs, g0, t0, _, 0, _, rfl, rfl, SqT.of g1, rfl, q0, _, rfl, .inr (SqT.of g2), fin⟩⟩
    · rintro σ H' ⟨⟨v, rfl⟩, s1, h1, h2⟩
      have e1 := h1 (show 1 ≤ 2 by omega)
      have e2 := h2 (show 2 ≤ 2 by omega)
      subst e1 e2
      exact k _ (same_tr s0 s1)
end
end K64
namespace K64
open PySem PySem.Spec PyProof.Rows L2

section
variable {P : Program} {w : World} {K : PySem.W.Frag} {mg : Str → Option Value} {base : Heap} {CN : Addr}
/-! ### negative -/
def spNeg : Sp := fun vs H Q _ => ∃ (a : Addr) (p : Pol), vs = [.ref a] ∧ PolAt H a p ∧ p.length ≤ 1000 ∧ ∀ H' b, Same H H' → PolAt H' b (negP p) → Q (.ref b) H'
theorem scNe : FnScope ["one", "powers", "factor"] ["one"] (defScope sNegative) := ⟨rfl, rfl, rfl, by decide +kernel, rfl, by decide +kernel, by decide +kernel⟩
theorem ok_negative {f : Addr} {fd : FuncData} (F : Fun K "negative" "negative" sNegative f fd) (B : Blt mg) : FnOk P w K mg base CX0 1 f fd ["one"] spNeg := by
  refine F.ok scNe (fun vs H Q E h => ?_) (fun cdv A outer s H vs Q E hr h => ?_)
  · obtain ⟨a, p, rfl, _⟩ := h
    rfl
  · obtain ⟨a, p, rfl, pa, hln, k⟩ := h
    refine ⟨_, pss_one (ps_ret (pe_callTy call_tupleP (by rfl) B.tuple (by decide +kernel) (pa_cons (pe_lc (own := [("powers", 1), ("factor", 2)]) (g := gTup K 2 (gCons (gName 1) (gCons (gName 2) gNil))) (tt := tYes) rfl scNe.nd (pi_tup (pv 0)) (blkOk_by (own := [("powers", 1), ("factor", 2)]) (N := ["one", "powers", "factor"]) (sc := defScope sNegative) (by decide +kernel))
        (fun _ _ _ _ _ => pg_tup rfl (pgs_cons (pg_name (i := 1) scNe.nd rfl (.inl rfl) (.inr rfl)) (pgs_cons (pg_name (i := 2) scNe.nd rfl (.inl rfl) (.inr rfl)) pgs_nil))) (fun _ _ _ _ _ => pts_nil)
        (fun _ _ _ _ _ => pe_tup (pa_cons (pv 1) (pa_cons (pe_un un_neg (pv 2)) pa_nil)))) pa_nil))), ?_⟩
    obtain ⟨ts, hs, hp⟩ := pa.seq (K := K)
    have hlt := Paired.length hp
    refine ⟨_, rfl, a, rfl, ⟨_, hs⟩, fun D hD => lc_tup (K := K) (a := a) (xs := ts.map V.ref) (fun i H' => Same H H' ∧ ∃ us : List Addr, H' D = some (.lst (us.map V.ref)) ∧ Paired (PAt H') us (negP (p.take i))) ⟨same_laid hD, [], upd_same, .nil⟩ (fun i H' _ ⟨s1, _⟩ => seqT_same s1 hs) ?_ ?_⟩
    · rintro i x H' hx ⟨s1, us, hD1, hpu⟩
      rw [List.getElem?_map] at hx
      obtain ⟨t, ht, rfl⟩ := Option.map_eq_some_iff.mp hx
      obtain ⟨e, he, q, g1, g2⟩ := paired_at hp ht
      have hul : us.length ≤ 1000 := by
        have h1 := Paired.length hpu
        simp [negP] at h1
        omega
      refine ⟨t, _, rfl, SqT.of (s1 _ _ g1), rfl, _, _, rfl, _, _, rfl, rfl, rfl, tYes_i (iteT ⟨_, rfl, _, rfl, _, rfl, by show 2 ≤ sizeLine; decide, fun t2 n2 => ?_⟩)⟩
      have s2 : Same H' (upd H' t2 (.tup [.ref q, .int (-e.2)])) := same_laid n2
      have up : ∀ {b : Addr} {u : HO}, (∀ l, u ≠ .lst l) → upd H' t2 (.tup [.ref q, .int (-e.2)]) b = some u → upd (upd H' t2 (.tup [.ref q, .int (-e.2)])) D (.lst (us.map V.ref ++ [.ref t2])) b = some u := by
        intro b u hu hb
        by_cases hbd : b = D
        · rw [hbd, s2 _ _ hD1] at hb
          cases hb
          exact absurd rfl (hu _)
        · rw [upd_ne hbd]; exact hb
      refine ⟨us.map V.ref, s2 _ _ hD1, small1000 (by rw [List.length_map]; exact hul), fun b u e' => ?_, us ++ [t2], ?_, ?_⟩
      · rw [upd_ne (ne_of_none e' hD)]
        exact s2 _ _ (s1 _ _ e')
      · rw [upd_same, List.map_append]
        rfl
      · rw [take_more' he, show negP (p.take i ++ [e]) = negP (p.take i) ++ [(e.1, -e.2)] by simp [negP]]
        refine paired_snoc ⟨q, up (fun l z => by cases z) upd_same, up (fun l z => by cases z) (s2 _ _ (s1 _ _ g2))⟩ (paired_imp (fun b x hx => ?_) hpu)
        obtain ⟨q', a1, a2⟩ := hx
        exact ⟨q', up (fun l z => by cases z) (s2 _ _ a1), up (fun l z => by cases z) (s2 _ _ a2)⟩
    · rintro H' ⟨s1, us, hD1, hpu⟩
      have e : p.take (ts.map V.ref).length = p := by rw [List.length_map, hlt, List.take_length]
      rw [e] at hpu
      refine ⟨D, _, rfl, SqL.of hD1, fun l o nl ho => ?_⟩
      have s2 : Same H' (upd H' l (.frz o (.tup (us.map V.ref)))) := same_laid nl
      exact k _ l (same_tr s1 s2) ⟨o, us, upd_same, ho, paired_imp (fun t x hx => hx.ext (.of s2)) hpu⟩
end
end K64
namespace K64
open PySem PySem.Spec PyProof.Rows L2

theorem mem_keys_addP {x : List Int} {f : Int} : ∀ {d : Pol}, ∃ c, (x, c) ∈ addP d x f
  | [] => ⟨getP [] x + f, by simp [addP, putP]⟩
  | (k, c) :: r => by
    by_cases h : k = x
    · exact ⟨getP ((k, c) :: r) x + f, by simp only [addP, putP, h, if_true]; exact List.mem_cons_self⟩
    · obtain ⟨c', h'⟩ := mem_keys_addP (x := x) (f := f) (d := r)
      refine ⟨c', ?_⟩
      have : addP ((k, c) :: r) x f = (k, c) :: addP r x f := by simp [addP, putP, getP, h]
      rw [this]
      exact List.mem_cons_of_mem _ h'
theorem mem_keep_putP {x : List Int} {v : Int} : ∀ {d : Pol} {e : List Int × Int}, e ∈ d → ∃ c, (e.1, c) ∈ putP d x v
  | (k, c) :: r, e, h => by
    by_cases hk : k = x
    · simp only [putP, hk, if_true]
      rcases List.mem_cons.mp h with rfl | h
      · exact ⟨v, by rw [← hk]; exact List.mem_cons_self⟩
      · exact ⟨e.2, List.mem_cons_of_mem _ h⟩
    · simp only [putP, hk, if_false]
      rcases List.mem_cons.mp h with rfl | h
      · exact ⟨c, List.mem_cons_self⟩
      · obtain ⟨c', h'⟩ := mem_keep_putP (x := x) (v := v) h
        exact ⟨c', List.mem_cons_of_mem _ h'⟩
theorem keep_addAll : ∀ (q d : Pol) {e : List Int × Int}, e ∈ d → ∃ c, (e.1, c) ∈ addAll d q
  | [], d, e, h => ⟨e.2, h⟩
  | (k, c) :: q, d, e, h => by
    obtain ⟨c', h'⟩ := mem_keep_putP (x := k) (v := getP d k + c) h
    exact keep_addAll q (addP d k c) (e := (e.1, c')) h'
theorem mem_addAll : ∀ (q d : Pol) {e : List Int × Int}, e ∈ q → ∃ c, (e.1, c) ∈ addAll d q
  | (k, c) :: q, d, e, h => by
    rcases List.mem_cons.mp h with rfl | h
    · obtain ⟨c', h'⟩ := mem_keys_addP (x := k) (f := c) (d := d)
      exact keep_addAll q (addP d k c) (e := (k, c')) h'
    · exact mem_addAll q (addP d k c) h
theorem addAll_take {p q : Pol} {i : Nat} {e : List Int × Int} (h : q[i]? = some e) : addAll p (q.take (i + 1)) = addP (addAll p (q.take i)) e.1 e.2 := by
  unfold addAll
  rw [take_more' h, List.foldl_append]
  rfl
theorem sum_bound : ∀ {k : List Int} {b : Nat}, (∀ x ∈ k, 0 ≤ x ∧ x ≤ (b : Int)) → 0 ≤ k.sum ∧ k.sum ≤ (k.length * b : Nat)
  | [], _, _ => by simp
  | x :: k, b, h => by
    have h1 := h x List.mem_cons_self
    have h2 := sum_bound (k := k) (b := b) fun y hy => h y (List.mem_cons_of_mem _ hy)
    simp only [List.sum_cons, List.length_cons]
    have e : (k.length + 1) * b = k.length * b + b := by rw [Nat.add_mul, Nat.one_mul]
    rw [e]
    omega
theorem small_sum {k : List Int} {n b : Nat} (hk : k.length = n) (hn : n ≤ 10) (hb : b ≤ 1000) (h : ∀ x ∈ k, 0 ≤ x ∧ x ≤ (b : Int)) : -(10 ^ 300 : Int) < k.sum ∧ k.sum < 10 ^ 300 := by
  have h1 := sum_bound h
  have h2 : k.length * b ≤ 10 * 1000 := Nat.mul_le_mul (by omega) hb
  have h3 : (10000 : Int) < 10 ^ 300 := by decide +kernel
  generalize (10 : Int) ^ 300 = m at h3
  omega
theorem potsV_len {n n' b b' N M : Nat} {p q : Pol} (hp : Ok n b N p) (hq : Ok n' b' M q) (h : p ≠ [] ∨ (q ≠ [] ∧ n = n')) : potsV p q = .int (n : Nat) := by
  cases p with
  | cons e r =>
    obtain ⟨k, c⟩ := e
    have := hp.len (k, c) List.mem_cons_self
    show V.int (k.length : Nat) = _
    rw [this]
  | nil =>
    rcases h with h | ⟨h, e⟩
    · exact absurd rfl h
    · cases q with
      | nil => exact absurd rfl h
      | cons e' r =>
        obtain ⟨k, c⟩ := e'
        have := hq.len (k, c) List.mem_cons_self
        show V.int (k.length : Nat) = _
        rw [this, e]
section
variable {P : Program} {w : World} {K : PySem.W.Frag} {mg : Str → Option Value} {base : Heap} {CN : Addr}
/-! ### plus -/
/-- two polynomials over n and n' pots: the sum is told, or, where n and n' differ, Nothing is raised -/
def spBin (CN : Addr) (op : Pol → Pol → Pol) : Sp := fun vs H Q E => ∃ (a b : Addr) (p q : Pol) (n n' bb N M : Nat), vs = [.ref a, .ref b] ∧ PolAt H a p ∧ PolAt H b q ∧ Ok n bb N p ∧ Ok n' bb M q ∧ N + M ≤ 400 ∧ n ≤ 10 ∧ n' ≤ 10 ∧ bb ≤ 1000 ∧
  ((n = n' ∧ ∀ H' c, Same H H' → PolAt H' c (op p q) → Q (.ref c) H') ∨ (n ≠ n' ∧ p ≠ [] ∧ q ≠ [] ∧ ∀ H', Same H H' → E (.ref CN) none H'))
theorem scPl : FnScope ["one", "other", "terms", "powers", "factor"] ["one", "other"] (defScope sPlus) := ⟨rfl, rfl, rfl, by decide +kernel, rfl, by decide +kernel, by decide +kernel⟩
theorem ok_plus {f : Addr} {fd : FuncData} (F : Fun K "plus" "plus" sPlus f fd) (B : Blt mg) (GT : Fn P w K mg base (L2.CX P w) 2 "tidied" ["terms", "pots"] (spTid CN)) (GP : Fn P w K mg base CX0 1 "pots_of" ["one", "other"] spPotsOf) : FnOk P w K mg base (L2.CX P w) 3 f fd ["one", "other"] (spBin CN plusP) := by
  refine F.okX scPl (fun vs H Q E h => ?_) (fun cdv A outer s H vs Q E hr h => ?_)
  · obtain ⟨a, b, p, q, n, n', bb, N, M, rfl, _⟩ := h
    rfl
  · obtain ⟨a, b, p, q, n, n', bb, N, M, rfl, pa, pb, op, oq, hNM, hn, hn', hbb, hk⟩ := h
    have hu : (A.deeper (envOfC "plus" (defScope sPlus) s.heap.objs.size f cdv)).units + 1 < cLine := hu_of hr
    have hu3 : (A.deeper (envOfC "plus" (defScope sPlus) s.heap.objs.size f cdv)).units + 3 < cLine := by have := hr.units; omega
    refine ⟨_, pss_cons (ps_set (i := 2) scPl.nd rfl (Or.inl rfl) (pe_callTy (cr_dictT rfl hu3) (by rfl) B.dict (by decide +kernel) (pa_cons (pv 0) pa_nil)))
      (pss_cons (ps_for (passes_of rfl) rfl (pi_tup (pv 1)) (pg_tup rfl (pgs_cons (pg_name (i := 3) scPl.nd rfl (.inl rfl)) (pgs_cons (pg_name (i := 4) scPl.nd rfl (.inl rfl)) pgs_nil)))
        (pss_one (ps_dput hu (pv 2) (pv 3) (pe_op op_add (pe_dget2 hu (pv 2) (pv 3) pe_int ⟨by rfl, by rfl, by rfl, by rfl⟩) (pv 4)) rfl)))
      (pss_one (ps_ret (pe_fn GT hr (by rfl) (passT (takes_of rfl rfl rfl rfl)) (pa_cons (pv 2) (pa_cons (pe_fn GP (hr.mono (by decide)) (by rfl) pass0 (pa_cons (pv 0) (pa_cons (pv 1) pa_nil))) pa_nil)))))), ?_⟩
    obtain ⟨o, ts, ha, hod, hp⟩ := pa
    refine ⟨_, rfl, a, o, ts, encD p, rfl, ha, hod, pairT_of hp, fun d nd => ?_⟩
    rw [show mergeT ([] : List (List Key × V)) (encD p) = encD p by have := mergeT_enc p [] (by simpa using op.asc.nodup); simpa [encD] using this]
    have s0 : Same H (upd H d (.dT (encD p))) := same_laid nd
    obtain ⟨us, hb, hq⟩ := pb.seq (K := K)
    have hul := Paired.length hq
    have hM := oq.size
    have hN := op.size
    refine ⟨_, rfl, b, rfl, ⟨_, seqT_same s0 hb⟩, for_tup (K := K) (a := b) (xs := us.map V.ref) (fun i σ H' => (∃ v3 v4, σ = [some (.ref a), some (.ref b), some (.ref d), v3, v4]) ∧ Same H H' ∧ H' d = some (.dT (encD (addAll p (q.take i))))) ⟨⟨none, none, rfl⟩, s0, upd_same⟩ (fun i σ H' _ ⟨_, s1, _⟩ => seqT_same s1 hb) ?_ ?_⟩
    · rintro i x σ H' hx ⟨⟨v3, v4, rfl⟩, s1, hd⟩
      rw [List.getElem?_map] at hx
      obtain ⟨t, ht, rfl⟩ := Option.map_eq_some_iff.mp hx
      obtain ⟨e, he, kk, g1, g2⟩ := paired_at hq ht
      have g2' : H' kk = some (.tup ((kEnc e.1).map kV)) := by rw [kEnc_kV]; exact s1 _ _ g2
      have hnd : ((addAll p (q.take i)).map (·.1)).Nodup := nodup_addAll _ _ op.asc.nodup
      have hln : (addAll p (q.take i)).length ≤ 400 := by
        have h1 := length_addAll (q.take i) p
        have h2 : (q.take i).length ≤ q.length := by rw [List.length_take]; omega
        omega
      refine ⟨t, _, rfl, SqT.of (s1 _ _ g1), rfl, _, _, rfl, _, _, rfl, rfl, ?_⟩
      refine ⟨_, rfl, d, rfl, .inr ⟨_, .inl hd⟩, _, rfl, _, DGet.t hd g2', ?_⟩
      rw [valV_enc]
      refine ⟨_, rfl, _, _, rfl, rfl, _, rfl, _, rfl, d, _, rfl, DPut.t hd g2' (small1000 (by rw [length_encD]; omega)), ⟨_, _, rfl⟩, fun b' o' e' => ?_, ?_⟩
      · rw [upd_ne (ne_of_none e' nd)]
        exact s1 _ _ e'
      · rw [upd_same, putK_enc hnd, addAll_take he]
        rfl
    · rintro σ H' ⟨⟨v3, v4, rfl⟩, s1, hd⟩
      have etk : q.take (us.map V.ref).length = q := by rw [List.length_map, hul, List.take_length]
      rw [etk] at hd
      have okk : ∀ e ∈ addAll p q, (e.1.length = n ∨ e.1.length = n') ∧ ∀ x ∈ e.1, 0 ≤ x ∧ x ≤ (bb : Int) := keys_addAll (Q := fun k => (k.length = n ∨ k.length = n') ∧ ∀ x ∈ k, 0 ≤ x ∧ x ≤ (bb : Int)) q p (fun e he => ⟨.inl (op.len e he), op.lo e he⟩) (fun e he => ⟨.inr (oq.len e he), oq.lo e he⟩)
      have tok : TidOk (addAll p q) := by
        refine ⟨nodup_addAll _ _ op.asc.nodup, ?_, ?_, fun e he => ?_⟩
        · have h1 := norm_addAll q p
          have h2 := op.nm
          have h3 := oq.nm
          omega
        · have h1 := length_addAll q p
          omega
        · obtain ⟨hl, hlo⟩ := okk e he
          rcases hl with hl | hl
          · exact small_sum hl hn hbb hlo
          · exact small_sum hl hn' hbb hlo
      refine ⟨_, rfl, _, rfl, _, rfl, a, b, p, q, rfl, ⟨o, ts, s1 _ _ ha, hod, paired_imp (fun t x hx => hx.ext (.of s1)) hp⟩, pb.same s1, fun H2 s2 => ?_⟩
      have hd2 := s2 _ _ hd
      rcases hk with ⟨e, kQ⟩ | ⟨hne, hpn, hqn, kE⟩
      · subst e
        refine ⟨d, addAll p q, _, n, rfl, hd2, tok, fun hD => ?_, fun _ H3 c s3 pc => kQ H3 c (same_tr s1 (same_tr s2 s3)) pc, fun hx => absurd (fun e he => ?_) hx⟩
        · by_cases hp0 : p = []
          · refine potsV_len op oq (.inr ⟨fun hq0 => hD ?_, rfl⟩)
            rw [hp0, hq0]
            rfl
          · exact potsV_len op oq (.inl hp0)
        · rcases (okk e he).1 with z | z <;> exact z
      · refine ⟨d, addAll p q, _, n, rfl, hd2, tok, fun hD => potsV_len op oq (.inl hpn), fun hall => ?_, fun _ H3 s3 => kE H3 (same_tr s1 (same_tr s2 s3))⟩
        exfalso
        obtain ⟨e0, he0⟩ := List.exists_mem_of_ne_nil q hqn
        obtain ⟨c, hc⟩ := mem_addAll q p he0
        have h1 := hall _ hc
        have h2 := oq.len _ he0
        exact hne (h1.symm.trans h2)
/-! ### minus -/
theorem scMi : FnScope ["one", "other"] ["one", "other"] (defScope sMinus) := ⟨rfl, rfl, rfl, by decide +kernel, rfl, by decide +kernel, by decide +kernel⟩
theorem ok_minus {f : Addr} {fd : FuncData} (F : Fun K "minus" "minus" sMinus f fd) (GP : Fn P w K mg base (L2.CX P w) 3 "plus" ["one", "other"] (spBin CN plusP)) (GN : Fn P w K mg base CX0 1 "negative" ["one"] spNeg) : FnOk P w K mg base (L2.CX P w) 4 f fd ["one", "other"] (spBin CN minusP) := by
  refine F.okX scMi (fun vs H Q E h => ?_) (fun cdv A outer s H vs Q E hr h => ?_)
  · obtain ⟨a, b, p, q, n, n', bb, N, M, rfl, _⟩ := h
    rfl
  · obtain ⟨a, b, p, q, n, n', bb, N, M, rfl, pa, pb, op, oq, hNM, hn, hn', hbb, hk⟩ := h
    refine ⟨_, pss_one (ps_ret (pe_fn GP hr (by rfl) (passT (takes_of rfl rfl rfl rfl)) (pa_cons (pv 0) (pa_cons (pe_fn GN (hr.mono (by decide)) (by rfl) pass0 (pa_cons (pv 1) pa_nil)) pa_nil)))), ?_⟩
    have hM := oq.size
    refine ⟨_, rfl, _, rfl, b, q, rfl, pb, by omega, fun H1 c s1 pc => ?_⟩
    refine ⟨a, c, p, negP q, n, n', bb, N, M, rfl, pa.same s1, pc, op, oq.neg, hNM, hn, hn', hbb, ?_⟩
    rcases hk with ⟨e, kQ⟩ | ⟨hne, hpn, hqn, kE⟩
    · exact .inl ⟨e, fun H2 d s2 pd => kQ H2 d (same_tr s1 s2) pd⟩
    · refine .inr ⟨hne, hpn, fun z => hqn ?_, fun H2 s2 => kE H2 (same_tr s1 s2)⟩
      cases q with
      | nil => rfl
      | cons e r => simp [negP] at z
end
end K64
namespace K64
open PySem PySem.Spec PyProof.Rows L2

theorem mulRow_take {d q : Pol} {e e' : List Int × Int} {j : Nat} (h : q[j]? = some e') : mulRow d e (q.take (j + 1)) = addP (mulRow d e (q.take j)) (zipAdd e.1 e'.1) (e.2 * e'.2) := by
  unfold mulRow
  rw [take_more' h, List.foldl_append]
  rfl
theorem mulAll_take {p q : Pol} {e : List Int × Int} {i : Nat} (h : p[i]? = some e) : mulAll [] (p.take (i + 1)) q = mulRow (mulAll [] (p.take i) q) e q := by
  unfold mulAll
  rw [take_more' h, List.foldl_append]
  rfl
theorem length_mulAll : ∀ (p d q : Pol), (mulAll d p q).length ≤ d.length + p.length * q.length
  | [], d, q => by simp [mulAll]
  | e :: p, d, q => by
    have h1 := length_mulAll p (mulRow d e q) q
    have h2 := length_mulRow e q d
    show (mulAll (mulRow d e q) p q).length ≤ _
    rw [List.length_cons, Nat.add_mul, Nat.one_mul]
    omega
theorem zipAdd_take {a b : List Int} {i : Nat} {x y : Int} (ha : a[i]? = some x) (hb : b[i]? = some y) : zipAdd (a.take (i + 1)) (b.take (i + 1)) = zipAdd (a.take i) (b.take i) ++ [x + y] := by
  have h1 := (List.getElem?_eq_some_iff.mp ha).1
  have h2 := (List.getElem?_eq_some_iff.mp hb).1
  have hl : (a.take i).length = (b.take i).length := by rw [List.length_take, List.length_take]; omega
  rw [take_more' ha, take_more' hb]
  unfold zipAdd
  rw [List.zipWith_append hl]
  rfl
theorem PolAt.head {K : PySem.W.Frag} {H : Hp} {a : Addr} {p : Pol} (h : PolAt H a p) (hp : p ≠ []) : ∃ (ts : List Addr) (t0 q0 : Addr) (kk : List Int) (cc : Int) (r : Pol), SqT K H a (ts.map V.ref) ∧ atI (ts.map V.ref) 0 = some (.ref t0) ∧ H t0 = some (.tup [.ref q0, .int cc]) ∧ H q0 = some (.tup (kk.map V.int)) ∧ p = (kk, cc) :: r := by
  obtain ⟨ts, h1, h2⟩ := h.seq (K := K)
  cases h2 with
  | nil => exact absurd rfl hp
  | cons h0 _ =>
    obtain ⟨q0, g1, g2⟩ := h0
    exact ⟨_, _, q0, _, _, _, h1, atI_nat (j := 0) rfl, g1, g2, rfl⟩
section
variable {P : Program} {w : World} {K : PySem.W.Frag} {mg : Str → Option Value} {base : Heap} {CN : Addr}
/-! ### times -/
def spTim : Sp := fun vs H Q E => ∃ (a b : Addr) (p q : Pol) (n bb N M : Nat), vs = [.ref a, .ref b] ∧ PolAt H a p ∧ PolAt H b q ∧ Ok n bb N p ∧ Ok n bb M q ∧ N * M ≤ 400 ∧ N ≤ 400 ∧ M ≤ 400 ∧ n ≤ 10 ∧ bb ≤ 400 ∧
  ∀ H' c, Same H H' → PolAt H' c (timesP p q) → Q (.ref c) H'
theorem scTi : FnScope ["one", "other", "terms", "powers", "factor", "more", "its", "both", "power", "its_power"] ["one", "other"] (defScope sTimes) := ⟨rfl, rfl, rfl, by decide +kernel, rfl, by decide +kernel, by decide +kernel⟩
theorem ok_times {f : Addr} {fd : FuncData} (F : Fun K "times" "times" sTimes f fd) (B : Blt mg) (GT : Fn P w K mg base (L2.CX P w) 2 "tidied" ["terms", "pots"] (spTid CN)) (GP : Fn P w K mg base CX0 1 "pots_of" ["one", "other"] spPotsOf) : FnOk P w K mg base (L2.CX P w) 3 f fd ["one", "other"] spTim := by
  refine F.okX scTi (fun vs H Q E h => ?_) (fun cdv A outer s H vs Q E hr h => ?_)
  · obtain ⟨a, b, p, q, n, bb, N, M, rfl, _⟩ := h
    rfl
  · obtain ⟨a, b, p, q, n, bb, N, M, rfl, pa, pb, op, oq, hNM, hN, hM, hn, hbb, k⟩ := h
    have hu : (A.deeper (envOfC "times" (defScope sTimes) s.heap.objs.size f cdv)).units + 1 < cLine := hu_of hr
    refine ⟨_, pss_cons (ps_if (PW.pt (pw_and (pt_cmpR (op_neD hr.units) (pv 0) (pe_tup pa_nil) (nomark _)) (pw_and (pt_cmpR (op_neD hr.units) (pv 1) (pe_tup pa_nil) (nomark _)) (pw_and1 (pt_cmpR op_ne
          (pe_callB (r := rLenS K) call_lenS (by rfl) B.len PySem.boot_len (pa_cons (pe_ix ix_tup (pe_ix ix_tup (pv 0) pe_int (fun _ _ => rfl)) pe_int (fun _ _ => rfl)) pa_nil))
          (pe_callB (r := rLenS K) call_lenS (by rfl) B.len PySem.boot_len (pa_cons (pe_ix ix_tup (pe_ix ix_tup (pv 1) pe_int (fun _ _ => rfl)) pe_int (fun _ _ => rfl)) pa_nil)) (nomark _)))))) (pss_one ps_never) pss_nil)
      (pss_cons (ps_set (i := 2) scTi.nd rfl (Or.inl rfl) pe_dnewT)
      (pss_cons (ps_for (passes_of rfl) rfl (pi_tup (pv 0)) (pg_tup rfl (pgs_cons (pg_name (i := 3) scTi.nd rfl (.inl rfl)) (pgs_cons (pg_name (i := 4) scTi.nd rfl (.inl rfl)) pgs_nil)))
        (pss_one (ps_for (passes_of rfl) rfl (pi_tup (pv 1)) (pg_tup rfl (pgs_cons (pg_name (i := 5) scTi.nd rfl (.inl rfl)) (pgs_cons (pg_name (i := 6) scTi.nd rfl (.inl rfl)) pgs_nil)))
          (pss_cons (ps_set (i := 7) scTi.nd rfl (Or.inl rfl) (pe_callTy call_tuple_of (by rfl) B.tuple (by decide +kernel) (pa_cons
            (pe_lc (own := [("power", 8), ("its_power", 9)]) (g := gTup K 2 (gCons (gName 8) (gCons (gName 9) gNil))) (tt := tYes) rfl scTi.nd (RZ.pi_zipA (by rfl) B.zip (pa_cons (pv 3) (pa_cons (pv 5) pa_nil)))
              (blkOk_by (own := [("power", 8), ("its_power", 9)]) (N := ["one", "other", "terms", "powers", "factor", "more", "its", "both", "power", "its_power"]) (sc := defScope sTimes) (by decide +kernel))
              (fun _ _ _ _ _ => pg_tup rfl (pgs_cons (pg_name (i := 8) scTi.nd rfl (.inl rfl) (.inr rfl)) (pgs_cons (pg_name (i := 9) scTi.nd rfl (.inl rfl) (.inr rfl)) pgs_nil))) (fun _ _ _ _ _ => pts_nil)
              (fun _ _ _ _ _ => pe_op op_add (pv 8) (pv 9))) pa_nil)))
          (pss_one (ps_dput hu (pv 2) (pv 7) (pe_op op_add (pe_dget2 hu (pv 2) (pv 7) pe_int ⟨by rfl, by rfl, by rfl, by rfl⟩) (pe_op op_mul (pv 4) (pv 6))) rfl))))))
      (pss_one (ps_ret (pe_fn GT hr (by rfl) (passT (takes_of rfl rfl rfl rfl)) (pa_cons (pv 2) (pa_cons (pe_fn GP (hr.mono (by decide)) (by rfl) pass0 (pa_cons (pv 0) (pa_cons (pv 1) pa_nil))) pa_nil))))))), ?_⟩
    refine ⟨_, rfl, Nat.zero_le _, fun t1 n1 => ⟨dPol p, dPol [], (pa.same (same_laid n1)).dp, dp_nil upd_same, shapedP _, shapedP _, ?_⟩⟩
    have sa : Same H (upd H t1 (.tup [])) := same_laid n1
    generalize upd H t1 (.tup []) = Ha at sa
    rw [eqvP]
    by_cases hp0 : p = []
    case' pos =>
      have e0 : (!decide (p = [])) = false := by simp [hp0]
      rw [e0]
      refine ⟨_, rfl, iteF (iteF ?_)⟩
      have s1 : Same H Ha := sa
      generalize Ha = H1 at s1
    case' neg =>
      have e0 : (!decide (p = [])) = true := by simp [hp0]
      rw [e0]
      refine ⟨_, rfl, iteT ⟨_, rfl, Nat.zero_le _, fun t2 n2 => ⟨dPol q, dPol [], (pb.same (same_tr sa (same_laid n2))).dp, dp_nil upd_same, shapedP _, shapedP _, ?_⟩⟩⟩
      have sb : Same H (upd Ha t2 (.tup [])) := same_tr sa (same_laid n2)
      generalize upd Ha t2 (.tup []) = Hb at sb
      rw [eqvP]
      by_cases hq0 : q = []
      case' pos =>
        have e1 : (!decide (q = [])) = false := by simp [hq0]
        rw [e1]
        refine ⟨_, rfl, iteF (iteF ?_)⟩
        have s1 : Same H Hb := sb
        generalize Hb = H1 at s1
      case' neg =>
        have e1 : (!decide (q = [])) = true := by simp [hq0]
        rw [e1]
        obtain ⟨ts0, t0, q0, kk, cc, r0, a1, a2, a3, a4, a5⟩ := (pa.same sb).head (K := K) hp0
        obtain ⟨us0, u0, w0, ll, dd, r1, b1, b2, b3, b4, b5⟩ := (pb.same sb).head (K := K) hq0
        have l1 : kk.length = n := op.len (kk, cc) (by rw [a5]; exact List.mem_cons_self)
        have l2 : ll.length = n := oq.len (ll, dd) (by rw [b5]; exact List.mem_cons_self)
        refine ⟨_, rfl, iteT ⟨_, rfl, a, _, 0, _, rfl, rfl, a1, a2, t0, _, 0, _, rfl, rfl, SqT.of a3, rfl, q0, _, rfl, .inr (SqT.of a4), ?_⟩⟩
        refine ⟨_, rfl, b, _, 0, _, rfl, rfl, b1, b2, u0, _, 0, _, rfl, rfl, SqT.of b3, rfl, w0, _, rfl, .inr (SqT.of b4), rfl, ?_⟩
        have e2 : (!decide (V.int ((kk.map V.int).length : Nat) = V.int ((ll.map V.int).length : Nat))) = false := by
          rw [List.length_map, List.length_map, l1, l2]
          simp
        rw [e2]
        refine ⟨_, rfl, iteF ?_⟩
        have s1 : Same H Hb := sb
        generalize Hb = H1 at s1
    all_goals
      intro d nd
      have nd' : H d = none := same_none s1 nd
      have s2 : Same H (upd H1 d (.dT [])) := same_tr s1 (same_laid nd)
      have hd0 : upd H1 d (.dT []) d = some (.dT (encD (mulAll [] (p.take 0) q))) := upd_same
      generalize upd H1 d (.dT []) = H2 at s2 hd0
      obtain ⟨ts, ha, hp⟩ := pa.seq (K := K)
      obtain ⟨us, hb, hq⟩ := pb.seq (K := K)
      have htl := Paired.length hp
      have hul := Paired.length hq
      have hMs := oq.size
      have hNs := op.size
      have hpq : p.length * q.length ≤ 400 := Nat.le_trans (Nat.mul_le_mul hNs hMs) hNM
      refine ⟨_, rfl, a, rfl, ⟨_, seqT_same s2 ha⟩, for_tup (K := K) (a := a) (xs := ts.map V.ref) (fun i σ H' => (∃ v3 v4 v5 v6 v7, σ = [some (.ref a), some (.ref b), some (.ref d), v3, v4, v5, v6, v7, none, none]) ∧ Same H H' ∧ H' d = some (.dT (encD (mulAll [] (p.take i) q)))) ⟨⟨none, none, none, none, none, rfl⟩, s2, hd0⟩ (fun i σ H' _ ⟨_, s3, _⟩ => seqT_same s3 ha) ?_ ?_⟩
      · rintro i x σ H' hx ⟨⟨v3, v4, v5, v6, v7, rfl⟩, s3, hd⟩
        rw [List.getElem?_map] at hx
        obtain ⟨t, ht, rfl⟩ := Option.map_eq_some_iff.mp hx
        obtain ⟨e, he, kk, g1, g2⟩ := paired_at hp ht
        have hip : i < p.length := (List.getElem?_eq_some_iff.mp he).1
        have hem : e ∈ p := List.mem_of_getElem? he
        refine ⟨t, _, rfl, SqT.of (s3 _ _ g1), rfl, _, _, rfl, _, _, rfl, rfl, ?_⟩
        refine ⟨_, rfl, b, rfl, ⟨_, seqT_same s3 hb⟩, for_tup (K := K) (a := b) (xs := us.map V.ref) (fun j σ H' => (∃ v5 v6 v7, σ = [some (.ref a), some (.ref b), some (.ref d), some (.ref kk), some (.int e.2), v5, v6, v7, none, none]) ∧ Same H H' ∧ H' d = some (.dT (encD (mulRow (mulAll [] (p.take i) q) e (q.take j))))) ⟨⟨v5, v6, v7, rfl⟩, s3, hd⟩ (fun i σ H' _ ⟨_, s4, _⟩ => seqT_same s4 hb) ?_ ?_⟩
        · rintro j y σ H4 hy ⟨⟨v5, v6, v7, rfl⟩, s4, hd4⟩
          rw [List.getElem?_map] at hy
          obtain ⟨u, hu2, rfl⟩ := Option.map_eq_some_iff.mp hy
          obtain ⟨e', he', mm, f1, f2⟩ := paired_at hq hu2
          have hjq : j < q.length := (List.getElem?_eq_some_iff.mp he').1
          have hem' : e' ∈ q := List.mem_of_getElem? he'
          have lk : e.1.length = n := op.len e hem
          have lm : e'.1.length = n := oq.len e' hem'
          refine ⟨u, _, rfl, SqT.of (s4 _ _ f1), rfl, _, _, rfl, _, _, rfl, rfl, ?_⟩
          refine ⟨_, rfl, _, rfl, kk, mm, _, _, rfl, .inr ⟨SqT.of (s4 _ _ g2), SqT.of (s4 _ _ f2), fun D hD => lc_gen (n := n) (fun l H5 => Same H4 H5 ∧ H5 D = some (.lst ((zipAdd (e.1.take l) (e'.1.take l)).map V.int))) ⟨same_laid hD, upd_same⟩ ?_ ?_ ?_ ?_⟩⟩
          · rintro l H5 hl ⟨s5, _⟩
            exact ⟨_, _, _, _, SqT.of (s5 _ _ (s4 _ _ g2)), SqT.of (s5 _ _ (s4 _ _ f2)), List.getElem?_eq_getElem (by rw [List.length_map]; omega), List.getElem?_eq_getElem (by rw [List.length_map]; omega)⟩
          · rintro H5 ⟨s5, _⟩
            exact ⟨_, _, SqT.of (s5 _ _ (s4 _ _ g2)), SqT.of (s5 _ _ (s4 _ _ f2)), .inl (by rw [List.length_map]; omega)⟩
          · rintro l x H5 H6 hl ⟨s5, hD5⟩ ⟨T1, xx, yy, rfl, hT1, rfl, fx, fy⟩
            have fx := fx _ (SqT.of (s5 _ _ (s4 _ _ g2)))
            have fy := fy _ (SqT.of (s5 _ _ (s4 _ _ f2)))
            rw [List.getElem?_map] at fx fy
            obtain ⟨x0, hx0, rfl⟩ := Option.map_eq_some_iff.mp fx
            obtain ⟨y0, hy0, rfl⟩ := Option.map_eq_some_iff.mp fy
            have s6 : Same H5 (upd H5 T1 (.tup [.int x0, .int y0])) := same_laid hT1
            refine ⟨T1, _, rfl, SqT.of upd_same, rfl, _, _, rfl, _, _, rfl, rfl, rfl, tYes_i (iteT ⟨_, rfl, _, rfl, _, _, rfl, rfl, _, s6 _ _ hD5, small1000 ?_, fun b' o' e'' => ?_, ?_⟩)⟩
            · rw [List.length_map]
              unfold zipAdd
              rw [List.length_zipWith, List.length_take]
              omega
            · rw [upd_ne (ne_of_none e'' hD)]
              exact s6 _ _ (s5 _ _ e'')
            · rw [upd_same, zipAdd_take hx0 hy0, List.map_append]
              rfl
          · rintro H5 ⟨s5, hD5⟩
            have et : zipAdd (e.1.take n) (e'.1.take n) = zipAdd e.1 e'.1 := by rw [List.take_of_length_le (by omega), List.take_of_length_le (by omega)]
            rw [et] at hD5
            refine ⟨D, _, rfl, .inl ⟨SqL.of hD5, fun bt nbt => ?_⟩⟩
            have s6 : Same H5 (upd H5 bt (.tup ((zipAdd e.1 e'.1).map V.int))) := same_laid nbt
            have hd6 := s6 _ _ (s5 _ _ hd4)
            have hbt : upd H5 bt (.tup ((zipAdd e.1 e'.1).map V.int)) bt = some (.tup ((kEnc (zipAdd e.1 e'.1)).map kV)) := by rw [upd_same, kEnc_kV]
            have hnd : ((mulRow (mulAll [] (p.take i) q) e (q.take j)).map (·.1)).Nodup := nodup_mulRow _ _ _ (nodup_mulAll _ _ _ (by simp))
            have hln : (mulRow (mulAll [] (p.take i) q) e (q.take j)).length ≤ 400 := by
              have h1 := length_mulRow e (q.take j) (mulAll [] (p.take i) q)
              have h2 := length_mulAll (p.take i) [] q
              have h3 : (p.take i).length * q.length + q.length ≤ p.length * q.length := by
                have : ((p.take i).length + 1) * q.length ≤ p.length * q.length := Nat.mul_le_mul_right _ (by rw [List.length_take]; omega)
                rw [Nat.add_mul, Nat.one_mul] at this
                exact this
              have h4 : (q.take j).length ≤ q.length := by rw [List.length_take]; omega
              have h5 : ([] : Pol).length = 0 := rfl
              omega
            have hm1 : e.2.natAbs ≤ 400 := Nat.le_trans (norm_mem hem) (Nat.le_trans op.nm hN)
            refine ⟨_, rfl, d, rfl, .inr ⟨_, .inl hd6⟩, _, rfl, _, DGet.t hd6 hbt, ?_⟩
            rw [valV_enc]
            refine ⟨_, rfl, _, rfl, _, _, rfl, rfl, .inl ⟨by omega, by omega⟩, _, _, rfl, rfl, _, rfl, _, rfl, d, _, rfl, DPut.t hd6 hbt (small1000 (by rw [length_encD]; omega)), ⟨_, _, _, rfl⟩, fun b' o' e'' => ?_, ?_⟩
            · rw [upd_ne (ne_of_none e'' nd')]
              exact s6 _ _ (s5 _ _ (s4 _ _ e''))
            · rw [upd_same, putK_enc hnd, mulRow_take he']
              rfl
        · rintro σ H4 ⟨⟨v5, v6, v7, rfl⟩, s4, hd4⟩
          have etk : q.take (us.map V.ref).length = q := by rw [List.length_map, hul, List.take_length]
          rw [etk] at hd4
          exact ⟨⟨_, _, _, _, _, rfl⟩, s4, by rw [hd4, mulAll_take he]⟩
      · rintro σ H4 ⟨⟨v3, v4, v5, v6, v7, rfl⟩, s4, hd4⟩
        have etk : p.take (ts.map V.ref).length = p := by rw [List.length_map, htl, List.take_length]
        rw [etk] at hd4
        have okk := keys_mulAll (Q := fun k => k.length = n ∧ ∀ x ∈ k, 0 ≤ x ∧ x ≤ ((bb + bb : Nat) : Int)) p [] q (by simp) fun e he e' he' => ⟨by simp [zipAdd, op.len e he, oq.len e' he'], fun x hx => by
          obtain ⟨y, hy, z, hz, rfl⟩ := mem_zipAdd hx
          have h1 := op.lo e he y hy
          have h2 := oq.lo e' he' z hz
          omega⟩
        have tok : TidOk (mulAll [] p q) := by
          refine ⟨nodup_mulAll _ _ _ (by simp), ?_, ?_, fun e he => ?_⟩
          · have h1 := norm_mulAll p [] q
            have h2 : norm p * norm q ≤ N * M := Nat.mul_le_mul op.nm oq.nm
            have h3 : norm ([] : Pol) = 0 := rfl
            omega
          · have h1 := length_mulAll p [] q
            simp at h1
            omega
          · obtain ⟨hl, hlo⟩ := okk e he
            exact small_sum hl hn (by omega) hlo
        refine ⟨_, rfl, _, rfl, _, rfl, a, b, p, q, rfl, pa.same s4, pb.same s4, fun H5 s5 => ?_⟩
        refine ⟨d, mulAll [] p q, _, n, rfl, s5 _ _ hd4, tok, fun hD => potsV_len op oq (.inl fun hp0 => hD (by rw [hp0]; rfl)), fun _ H6 c s6 pc => k H6 c (same_tr s4 (same_tr s5 s6)) pc, fun hx => absurd (fun e he => (okk e he).1) hx⟩
end
end K64
namespace K64
open PySem PySem.Spec PyProof.Rows L2
section
variable {P : Program} {w : World} {K : PySem.W.Frag} {mg : Str → Option Value} {base : Heap} {CN : Addr}
/-! ### falling -/
/-- what a side takes: at most four pots, at most two of each -/
structure TkOk (taken : List Int) : Prop where
  ln : taken.length ≤ 4
  en : ∀ x ∈ taken, 0 ≤ x ∧ x ≤ 2
def spFall : Sp := fun vs H Q _ => ∃ (t : Addr) (taken : List Int), vs = [.ref t] ∧ H t = some (.tup (taken.map V.int)) ∧ TkOk taken ∧ ∀ H' a, Same H H' → PolAt H' a (fallP taken) → Q (.ref a) H'
theorem scFa : FnScope ["taken", "pots", "found", "pot", "many", "back"] ["taken"] (defScope sFalling) := ⟨rfl, rfl, rfl, by decide +kernel, rfl, by decide +kernel, by decide +kernel⟩
theorem ok_falling {f : Addr} {fd : FuncData} (F : Fun K "falling" "falling" sFalling f fd) (B : Blt mg) (GN : Fn P w K mg base (L2.CX P w) 3 "number" ["told", "pots"] spNum) (GC : Fn P w K mg base (L2.CX P w) 3 "count_of" ["pot", "pots"] (spCnt CN))
    (GM : Fn P w K mg base (L2.CX P w) 4 "minus" ["one", "other"] (spBin CN minusP)) (GT : Fn P w K mg base (L2.CX P w) 3 "times" ["one", "other"] spTim) : FnOk P w K mg base (L2.CX P w) 5 f fd ["taken"] spFall := by
  refine F.okX scFa (fun vs H Q E h => ?_) (fun cdv A outer s H vs Q E hr h => ?_)
  · obtain ⟨t, taken, rfl, _⟩ := h
    rfl
  · obtain ⟨t, taken, rfl, ht, tok, k⟩ := h
    have hr3 := hr.mono (show 3 ≤ 4 by decide)
    refine ⟨_, pss_cons (ps_set (i := 1) scFa.nd rfl (Or.inl rfl) (pe_callB (r := rLenS K) call_lenS (by rfl) B.len PySem.boot_len (pa_cons (pv 0) pa_nil)))
      (pss_cons (ps_set (i := 2) scFa.nd rfl (Or.inl rfl) (pe_fn GN hr3 (by rfl) (passT (takes_of rfl rfl rfl rfl)) (pa_cons pe_int (pa_cons (pv 1) pa_nil))))
      (pss_cons (ps_for (passes_of rfl) rfl (pi_enumT (by rfl) B.enumerate (pa_cons (pv 0) pa_nil)) (pg_tup rfl (pgs_cons (pg_name (i := 3) scFa.nd rfl (.inl rfl)) (pgs_cons (pg_name (i := 4) scFa.nd rfl (.inl rfl)) pgs_nil)))
        (pss_one (ps_for (passes_of rfl) rfl (pi_range1 (by rfl) B.range (pa_cons (pv 4) pa_nil)) (pg_name (i := 5) scFa.nd rfl (Or.inl rfl))
          (pss_one (ps_set (i := 2) scFa.nd rfl (Or.inl rfl) (pe_fn GT hr3 (by rfl) (passT (takes_of rfl rfl rfl rfl)) (pa_cons (pv 2) (pa_cons (pe_fn GM hr (by rfl) (passT (takes_of rfl rfl rfl rfl)) (pa_cons (pe_fn GC hr3 (by rfl) (passT (takes_of rfl rfl rfl rfl)) (pa_cons (pv 3) (pa_cons (pv 1) pa_nil)))
            (pa_cons (pe_fn GN hr3 (by rfl) (passT (takes_of rfl rfl rfl rfl)) (pa_cons (pv 5) (pa_cons (pv 1) pa_nil))) pa_nil))) pa_nil))))))))
      (pss_one (ps_ret (pv 2))))), ?_⟩
    refine ⟨_, rfl, t, _, rfl, .inr (SqT.of ht), ?_⟩
    refine ⟨_, rfl, 1, taken.length, by rw [List.length_map]; rfl, by have := tok.ln; omega, by decide, fun H1 a1 s1 p1 => ?_⟩
    refine ⟨_, rfl, t, _, rfl, SqT.of (s1 _ _ ht), for_gen (n := taken.length) (fun i σ H' => (∃ a v3 v4 v5, σ = [some (.ref t), some (.int (taken.length : Nat)), some (.ref a), v3, v4, v5] ∧ PolAt H' a (fallAll taken.length taken i)) ∧ Same H H') ⟨⟨a1, none, none, none, by rw [List.length_map]; rfl, p1⟩, s1⟩ ?_ ?_ ?_ ?_⟩
    · rintro i σ H' hi ⟨_, s2⟩
      exact ⟨_, _, SqT.of (s2 _ _ ht), List.getElem?_eq_getElem (by rw [List.length_map]; exact hi)⟩
    · rintro σ H' ⟨_, s2⟩
      exact ⟨_, SqT.of (s2 _ _ ht), by rw [List.length_map]; exact Nat.le_refl _⟩
    · rintro i x σ H' H'' hi ⟨⟨a2, v3, v4, v5, rfl, p2⟩, s2⟩ ⟨T1, y, rfl, hT1, rfl, fy⟩
      have fy := fy _ (SqT.of (s2 _ _ ht))
      rw [List.getElem?_map] at fy
      obtain ⟨m, hm, rfl⟩ := Option.map_eq_some_iff.mp fy
      have hmem := tok.en m (List.mem_of_getElem? hm)
      have s3 : Same H' (upd H' T1 (.tup [.int (i : Nat), .int m])) := same_laid hT1
      refine ⟨T1, _, rfl, SqT.of upd_same, rfl, _, _, rfl, _, _, rfl, rfl, ?_⟩
      have hn4 := tok.ln
      have hm2 : m.toNat ≤ 2 := by omega
      have hget : taken.getD i 0 = m := by rw [List.getD_eq_getElem?_getD, hm]; rfl
      have okA : Ok taken.length (2 * i) (2 ^ i) (fallAll taken.length taken i) := Ok.fall tok.en (by omega)
      have h2i : 2 ^ i ≤ 8 := Nat.pow_le_pow_right (by decide) (show i ≤ 3 by omega)
      refine ⟨_, rfl, m, rfl, by omega, by omega, for_range (lo := 0) (n := m.toNat) (fun j σ H' => (∃ a v5, σ = [some (.ref t), some (.int (taken.length : Nat)), some (.ref a), some (.int (i : Nat)), some (.int m), v5] ∧ PolAt H' a (fallRow taken.length i j (fallAll taken.length taken i))) ∧ Same H H') ⟨⟨a2, v5, rfl, p2.same s3⟩, same_tr s2 s3⟩ ?_ ?_⟩
      · rintro j σ H1 hj ⟨⟨a3, v5, rfl, p3⟩, s4⟩
        have hj1 : j ≤ 1 := by omega
        refine ⟨_, rfl, _, rfl, _, rfl, i, taken.length, rfl, by omega, fun _ H2 c s5 pc => ?_, fun z => absurd hi z⟩
        refine ⟨_, rfl, _, rfl, 0 + (j : Nat), taken.length, rfl, by omega, by omega, fun H3 d s6 pd => ?_⟩
        rw [Int.zero_add] at pd
        refine ⟨c, d, cntP taken.length i, numP taken.length (j : Nat), taken.length, taken.length, 1, 1, j, rfl, pc.same s6, pd, Ok.cnt hi, ?_, by omega, by omega, by omega, by decide, .inl ⟨rfl, fun H4 e s7 pe => ?_⟩⟩
        · have := Ok.num taken.length 1 ((j : Nat) : Int)
          simpa using this
        have okM : Ok taken.length 1 (1 + j) (minusP (cntP taken.length i) (numP taken.length (j : Nat))) := by
          have := (Ok.cnt hi).minus (Ok.num taken.length 1 ((j : Nat) : Int))
          simpa using this
        have s8 : Same H1 H4 := same_tr s5 (same_tr s6 s7)
        refine ⟨a3, e, _, _, taken.length, 2 * i + 2, 2 * 2 ^ i, 1 + j, rfl, p3.same s8, pe, okA.frow hi (by omega), okM.mono (by omega) (Nat.le_refl _), ?_, by omega, by omega, by omega, by omega, fun H5 g s9 pg => ⟨⟨g, _, rfl, pg⟩, same_tr s4 (same_tr s8 s9)⟩⟩
        have : 2 * 2 ^ i * (1 + j) ≤ 16 * 2 := Nat.mul_le_mul (by omega) (by omega)
        omega
      · rintro σ H1 ⟨⟨a3, v5, rfl, p3⟩, s4⟩
        refine ⟨⟨a3, _, _, _, rfl, ?_⟩, s4⟩
        have e : fallAll taken.length taken (i + 1) = fallRow taken.length i m.toNat (fallAll taken.length taken i) := by
          show fallRow taken.length i (taken.getD i 0).toNat _ = _
          rw [hget]
        rw [e]
        exact p3
    · rintro σ H' ⟨⟨a2, v3, v4, v5, rfl, p2⟩, s2⟩
      exact ⟨_, rfl, k _ a2 s2 p2⟩
/-! ### weight_of_side -/
def spWei : Sp := fun vs H Q _ => ∃ (t : Addr) (taken : List Int) (rate : Int), vs = [.ref t, .int rate] ∧ H t = some (.tup (taken.map V.int)) ∧ TkOk taken ∧ rate.natAbs ≤ 20 ∧ ∀ H' a, Same H H' → PolAt H' a (weightP taken rate) → Q (.ref a) H'
theorem scWe : FnScope ["taken", "rate"] ["taken", "rate"] (defScope sWeight) := ⟨rfl, rfl, rfl, by decide +kernel, rfl, by decide +kernel, by decide +kernel⟩
theorem ok_weight {f : Addr} {fd : FuncData} (F : Fun K "weight_of_side" "weight_of_side" sWeight f fd) (B : Blt mg) (GN : Fn P w K mg base (L2.CX P w) 3 "number" ["told", "pots"] spNum) (GF : Fn P w K mg base (L2.CX P w) 5 "falling" ["taken"] spFall)
    (GT : Fn P w K mg base (L2.CX P w) 3 "times" ["one", "other"] spTim) : FnOk P w K mg base (L2.CX P w) 6 f fd ["taken", "rate"] spWei := by
  refine F.okX scWe (fun vs H Q E h => ?_) (fun cdv A outer s H vs Q E hr h => ?_)
  · obtain ⟨t, taken, rate, rfl, _⟩ := h
    rfl
  · obtain ⟨t, taken, rate, rfl, ht, tok, hrt, k⟩ := h
    have hr3 := hr.mono (show 3 ≤ 5 by decide)
    refine ⟨_, pss_one (ps_ret (pe_fn GT hr3 (by rfl) (passT (takes_of rfl rfl rfl rfl)) (pa_cons (pe_fn GN hr3 (by rfl) (passT (takes_of rfl rfl rfl rfl)) (pa_cons (pv 1) (pa_cons (pe_callB (r := rLenS K) call_lenS (by rfl) B.len PySem.boot_len (pa_cons (pv 0) pa_nil)) pa_nil)))
      (pa_cons (pe_fn GF hr (by rfl) (passT (takes_of rfl rfl rfl rfl)) (pa_cons (pv 0) pa_nil)) pa_nil)))), ?_⟩
    have hn4 := tok.ln
    refine ⟨_, rfl, _, rfl, t, _, rfl, .inr (SqT.of ht), ?_⟩
    refine ⟨rate, taken.length, by rw [List.length_map]; rfl, by omega, by omega, fun H1 a s1 pa => ?_⟩
    refine ⟨_, rfl, t, taken, rfl, s1 _ _ ht, tok, fun H2 b s2 pb => ?_⟩
    have okF := Ok.fallP tok.en
    have h2 : 2 ^ taken.length ≤ 16 := Nat.pow_le_pow_right (by decide) hn4
    refine ⟨a, b, _, _, taken.length, 2 * taken.length, rate.natAbs, 2 ^ taken.length, rfl, pa.same s2, pb, Ok.num _ _ _, okF, ?_, by omega, by omega, by omega, by omega, fun H3 c s3 pc => k H3 c (same_tr s1 (same_tr s2 s3)) pc⟩
    have : rate.natAbs * 2 ^ taken.length ≤ 20 * 16 := Nat.mul_le_mul hrt h2
    omega
/-! ### shift_of -/
def shiftV (n : Nat) (r : Pol) : V := if r = [] then .int 0 else match r with
  | [(k, c)] => if k = zeros n then .int c else .non
  | _ => .non
def spShi : Sp := fun vs H Q _ => ∃ (a : Addr) (p : Pol) (i n bb N : Nat), vs = [.ref a, .int (i : Nat), .int (n : Nat)] ∧ PolAt H a p ∧ i < n ∧ n ≤ 4 ∧ Ok n bb N p ∧ N ≤ 300 ∧ bb ≤ 300 ∧ 1 ≤ bb ∧ ∀ H', Same H H' → Q (shiftV n (minusP p (cntP n i))) H'
theorem scSh : FnScope ["told", "pot", "pots", "rest"] ["told", "pot", "pots"] (defScope sShiftOf) := ⟨rfl, rfl, rfl, by decide +kernel, rfl, by decide +kernel, by decide +kernel⟩
theorem ok_shift {f : Addr} {fd : FuncData} (F : Fun K "shift_of" "shift_of" sShiftOf f fd) (B : Blt mg) (GC : Fn P w K mg base (L2.CX P w) 3 "count_of" ["pot", "pots"] (spCnt CN))
    (GM : Fn P w K mg base (L2.CX P w) 4 "minus" ["one", "other"] (spBin CN minusP)) : FnOk P w K mg base (L2.CX P w) 5 f fd ["told", "pot", "pots"] spShi := by
  refine F.okX scSh (fun vs H Q E h => ?_) (fun cdv A outer s H vs Q E hr h => ?_)
  · obtain ⟨a, p, i, n, bb, N, rfl, _⟩ := h
    rfl
  · obtain ⟨a, p, i, n, bb, N, rfl, pa, hi, hn, op, hN, hbb, hb1, k⟩ := h
    have hr3 := hr.mono (show 3 ≤ 4 by decide)
    refine ⟨_, pss_cons (ps_set (i := 3) scSh.nd rfl (Or.inl rfl) (pe_fn GM hr (by rfl) (passT (takes_of rfl rfl rfl rfl)) (pa_cons (pv 0) (pa_cons (pe_fn GC hr3 (by rfl) (passT (takes_of rfl rfl rfl rfl)) (pa_cons (pv 1) (pa_cons (pv 2) pa_nil))) pa_nil))))
      (pss_cons (ps_if (pt_cmpR (op_eqD hr.units) (pv 3) (pe_tup pa_nil) (nomark _)) (pss_one (ps_ret pe_int)) pss_nil)
      (pss_one (ps_ret (pe_ifExp (PW.pt (pw_and (pt_cmpR op_eq (pe_callB (r := rLenS K) call_lenS (by rfl) B.len PySem.boot_len (pa_cons (pv 3) pa_nil)) pe_int (nomark _))
          (pw_and1 (pt_cmpR (op_eqD hr.units) (pe_ix ix_tup (pe_ix ix_tup (pv 3) pe_int (fun _ _ => rfl)) pe_int (fun _ _ => rfl)) (pe_op op_repA (pe_tup (pa_cons pe_int pa_nil)) (pv 2)) (nomark _)))))
        (pe_ix ix_tup (pe_ix ix_tup (pv 3) pe_int (fun _ _ => rfl)) pe_int (fun _ _ => rfl)) pe_non)))), ?_⟩
    refine ⟨_, rfl, _, rfl, _, rfl, i, n, rfl, by omega, fun _ H1 c s1 pc => ?_, fun z => absurd hi z⟩
    refine ⟨a, c, p, cntP n i, n, n, bb, N, 1, rfl, pa.same s1, pc, op, (Ok.cnt hi).mono hb1 (Nat.le_refl _), by omega, by omega, by omega, by omega, .inl ⟨rfl, fun H2 r s2 pr => ?_⟩⟩
    have k := fun H' (s : Same H2 H') => k H' (same_tr s1 (same_tr s2 s))
    generalize minusP p (cntP n i) = rest at pr k
    refine ⟨_, rfl, Nat.zero_le _, fun t1 n1 => ?_⟩
    have s3 : Same H2 (upd H2 t1 (.tup [])) := same_laid n1
    refine ⟨dPol rest, dPol [], (pr.same s3).dp, dp_nil upd_same, shapedP _, shapedP _, ?_⟩
    rw [eqvP]
    generalize upd H2 t1 (.tup []) = H3 at s3
    have k := fun H' (s : Same H3 H') => k H' (same_tr s3 s)
    have pr3 := pr.same s3
    by_cases hr0 : rest = []
    · rw [decide_eq_true hr0]
      refine ⟨_, rfl, iteT ?_⟩
      have e : shiftV n rest = .int 0 := by rw [hr0]; rfl
      rw [e] at k
      exact k _ (fun _ _ e => e)
    · rw [decide_eq_false hr0]
      refine ⟨_, rfl, iteF ?_⟩
      obtain ⟨ts, hsq, hpp⟩ := pr3.seq (K := K)
      have htl := Paired.length hpp
      refine ⟨_, rfl, r, _, rfl, .inr hsq, rfl, ?_⟩
      by_cases h1 : rest.length = 1
      · have e1 : decide (V.int ((ts.map V.ref).length : Nat) = V.int 1) = true := by
          rw [List.length_map, htl, h1]
          rfl
        rw [e1]
        obtain ⟨ts', t0, q0, kk, cc, r0, a1, a2, a3, a4, a5⟩ := pr3.head (K := K) hr0
        have r0n : r0 = [] := by
          rw [a5] at h1
          simpa using h1
        refine ⟨_, rfl, iteT ⟨_, rfl, r, _, 0, _, rfl, rfl, a1, a2, t0, _, 0, _, rfl, rfl, SqT.of a3, rfl, by show 1 ≤ sizeLine; decide, fun t2 n2 => ⟨_, rfl, zeros_i upd_same (by omega) fun z H4 s4 hz => ?_⟩⟩⟩
        have s5 : Same H3 H4 := same_tr (same_laid n2) s4
        have lay : ∀ l : List Int, SeqAt.shaped (.tuple (l.map .int)) = true := fun l => by
          show ((PyData.tuple (l.map .int)).canLay0 && decide ((PyData.tuple (l.map .int)).depth ≤ 64)) = true
          have h := W.depth_ints l
          simp [PyData.canLay0, lay_ints, PyData.depth, h]
        refine ⟨.tuple (kk.map .int), .tuple ((zeros n).map .int), .tup (SqT.of (s5 _ _ a4)) (dpInts _), .tup (SqT.of hz) (dpInts _), lay _, lay _, ?_⟩
        have e2 : PyData.eqv (.tuple (kk.map .int)) (.tuple ((zeros n).map .int)) = decide (kk = zeros n) := by
          rw [← eqv_ints]
          simp [PyData.eqv]
        rw [e2]
        have hv : shiftV n rest = if kk = zeros n then .int cc else .non := by
          rw [a5, r0n]
          rfl
        by_cases hz0 : kk = zeros n
        · rw [decide_eq_true hz0]
          rw [if_pos hz0] at hv
          rw [hv] at k
          exact ⟨_, rfl, iteT ⟨_, rfl, r, _, 0, _, rfl, rfl, seqT_same s5 a1, a2, t0, _, 0 + 1, _, rfl, rfl, SqT.of (s5 _ _ a3), rfl, k _ s5⟩⟩
        · rw [decide_eq_false hz0]
          rw [if_neg hz0] at hv
          rw [hv] at k
          exact ⟨_, rfl, iteF (k _ s5)⟩
      · have e1 : decide (V.int ((ts.map V.ref).length : Nat) = V.int 1) = false := by
          rw [List.length_map, htl]
          refine decide_eq_false fun z => h1 ?_
          injection z with z
          omega
        rw [e1]
        have hv : shiftV n rest = .non := by
          unfold shiftV
          rw [if_neg hr0]
          split
          · exact absurd rfl h1
          · rfl
        rw [hv] at k
        exact ⟨_, rfl, iteF (iteF (k _ (fun _ _ e => e)))⟩
end
end K64
namespace K64
open PySem PySem.Spec PyProof.Rows L2
def ipM : TIp := fun x y H Q => ∃ i j, x = .int i ∧ y = .int j ∧ CMul i j ∧ Q (.int (i * j)) H
theorem ip_mul {X : Cx} : PIp X .Mult ipM := by
  intro pins s σ H x y v u Q I r1 r2 h
  obtain ⟨i, j, e1, e2, hc, q⟩ := h
  subst e1; subst e2
  obtain ⟨t, rfl⟩ := r1
  obtain ⟨t', rfl⟩ := r2
  exact PySem.P.imul_int (Q := EP X pins σ Q) ⟨.int _, H, I.tok _, ⟨_, rfl⟩, q⟩ hc.ok
section
variable {P : Program} {w : World} {K : PySem.W.Frag} {mg : Str → Option Value} {base : Heap} {CN : Addr}
/-! ### worth_at and the law's own -/
def spEvl : Sp := fun vs H Q _ => ∃ (a c : Addr) (p : Pol) (cs : List Int) (n bb N : Nat), vs = [.ref a, .ref c] ∧ PolAt H a p ∧ Ok n bb N p ∧ bb ≤ 1000 ∧ H c = some (.tup (cs.map V.int)) ∧ cs.length = n ∧ (∀ x ∈ cs, 0 ≤ x ∧ x ≤ 100) ∧ ∀ H', Same H H' → Q (.int (evalP cs p)) H'
theorem scWo : FnScope ["told", "counts", "found", "powers", "factor", "term", "power", "count", "_time"] ["told", "counts"] (defScope sWorth) := ⟨rfl, rfl, rfl, by decide +kernel, rfl, by decide +kernel, by decide +kernel⟩
theorem ok_worth {f : Addr} {fd : FuncData} (F : Fun K "worth_at" "worth_at" sWorth f fd) (B : Blt mg) : FnOk P w K mg base CX0 1 f fd ["told", "counts"] spEvl := by
  refine F.ok scWo (fun vs H Q E h => ?_) (fun cdv A outer s H vs Q E hr h => ?_)
  · obtain ⟨a, c, p, cs, n, bb, N, rfl, _⟩ := h
    rfl
  · obtain ⟨a, c, p, cs, n, bb, N, rfl, pa, op, hbb, hc, hcl, hcs, k⟩ := h
    refine ⟨_, pss_cons (ps_set (i := 2) scWo.nd rfl (Or.inl rfl) pe_int)
      (pss_cons (ps_for PassesOwn.never rfl (pi_tup (pv 0)) (pg_tup rfl (pgs_cons (pg_name (i := 3) scWo.nd rfl (.inl rfl)) (pgs_cons (pg_name (i := 4) scWo.nd rfl (.inl rfl)) pgs_nil)))
        (pss_cons (ps_set (i := 5) scWo.nd rfl (Or.inl rfl) (pv 4))
        (pss_cons (ps_for PassesOwn.never rfl (RZ.pi_zipA (by rfl) B.zip (pa_cons (pv 3) (pa_cons (pv 1) pa_nil))) (pg_tup rfl (pgs_cons (pg_name (i := 6) scWo.nd rfl (.inl rfl)) (pgs_cons (pg_name (i := 7) scWo.nd rfl (.inl rfl)) pgs_nil)))
          (pss_one (ps_for PassesOwn.never rfl (pi_range1 (by rfl) B.range (pa_cons (pv 6) pa_nil)) (pg_name (i := 8) scWo.nd rfl (Or.inl rfl))
            (pss_one (ps_aug (i := 5) scWo.nd rfl (.inl rfl) (pv 7) ip_mul)))))
        (pss_one (ps_aug (i := 2) scWo.nd rfl (.inl rfl) (pv 5) ip_add)))))
      (pss_one (ps_ret (pv 2)))), ?_⟩
    obtain ⟨ts, ha, hp⟩ := pa.seq (K := K)
    have htl := Paired.length hp
    refine ⟨_, rfl, a, rfl, ⟨_, ha⟩, for_tup (K := K) (a := a) (xs := ts.map V.ref) (fun i σ H' => (∃ v3 v4 v5 v6 v7 v8, σ = [some (.ref a), some (.ref c), some (.int (S (mono cs) (p.take i))), v3, v4, v5, v6, v7, v8]) ∧ Same H H') ⟨⟨none, none, none, none, none, none, rfl⟩, fun _ _ e => e⟩ (fun i σ H' _ ⟨_, s1⟩ => seqT_same s1 ha) ?_ ?_⟩
    · rintro i x σ H' hx ⟨⟨v3, v4, v5, v6, v7, v8, rfl⟩, s1⟩
      rw [List.getElem?_map] at hx
      obtain ⟨t, ht, rfl⟩ := Option.map_eq_some_iff.mp hx
      obtain ⟨e, he, kk, g1, g2⟩ := paired_at hp ht
      have hem : e ∈ p := List.mem_of_getElem? he
      have hkl : e.1.length = n := op.len e hem
      refine ⟨t, _, rfl, SqT.of (s1 _ _ g1), rfl, _, _, rfl, _, _, rfl, rfl, ?_⟩
      refine ⟨_, rfl, _, rfl, _, rfl, kk, c, _, _, rfl, .inr ⟨SqT.of (s1 _ _ g2), SqT.of (s1 _ _ hc), RZ.for_zipT (K := K) (a := kk) (b := c) (xs := e.1.map V.int) (ys := cs.map V.int) (by rw [List.length_map, List.length_map]; omega)
        (fun l σ H2 => (∃ v6 v7 v8, σ = [some (.ref a), some (.ref c), some (.int (S (mono cs) (p.take i))), some (.ref kk), some (.int e.2), some (.int (e.2 * mono (cs.take l) (e.1.take l))), v6, v7, v8]) ∧ Same H H2) ⟨⟨v6, v7, v8, ?_⟩, s1⟩ (fun l σ H2 ⟨_, s2⟩ => ⟨SqT.of (s2 _ _ g2), SqT.of (s2 _ _ hc)⟩) ?_ ?_⟩⟩
      · have : e.2 * mono (cs.take 0) (e.1.take 0) = e.2 := by
          rw [List.take_zero, List.take_zero, mono_nil, Int.mul_one]
        rw [this]
        rfl
      · rintro l x y T1 σ H2 hx hy ⟨⟨v6, v7, v8, rfl⟩, s2⟩ hT1
        rw [List.getElem?_map] at hx hy
        obtain ⟨x0, hx0, rfl⟩ := Option.map_eq_some_iff.mp hx
        obtain ⟨y0, hy0, rfl⟩ := Option.map_eq_some_iff.mp hy
        have hxb := op.lo e hem x0 (List.mem_of_getElem? hx0)
        have hyb := hcs y0 (List.mem_of_getElem? hy0)
        have s3 : Same H2 (upd H2 T1 (.tup [.int x0, .int y0])) := same_laid hT1
        refine ⟨T1, _, rfl, SqT.of upd_same, rfl, _, _, rfl, _, _, rfl, rfl, _, rfl, x0, rfl, by omega, by omega, for_range (lo := 0) (n := x0.toNat)
          (fun r σ H3 => (∃ v8, σ = [some (.ref a), some (.ref c), some (.int (S (mono cs) (p.take i))), some (.ref kk), some (.int e.2), some (.int (e.2 * mono (cs.take l) (e.1.take l) * y0 ^ r)), some (.int x0), some (.int y0), v8]) ∧ Same H H3) ⟨⟨v8, ?_⟩, same_tr s2 s3⟩ ?_ ?_⟩
        · rw [Int.pow_zero, Int.mul_one]
          rfl
        · rintro r σ H3 hr3 ⟨⟨v8, rfl⟩, s4⟩
          refine ⟨_, rfl, _, rfl, _, _, rfl, rfl, .inr ⟨by omega, by omega⟩, ⟨some (.int (0 + (r : Nat))), ?_⟩, s4⟩
          rw [Int.pow_succ, ← Int.mul_assoc]
          rfl
        · rintro σ H3 ⟨⟨v8, rfl⟩, s4⟩
          refine ⟨⟨some (.int x0), some (.int y0), v8, ?_⟩, s4⟩
          rw [mono_take_succ hy0 hx0, ← Int.mul_assoc]
      · rintro σ H2 ⟨⟨v6, v7, v8, rfl⟩, s2⟩
        refine ⟨_, rfl, _, rfl, _, _, rfl, rfl, ⟨some (.ref kk), some (.int e.2), some (.int (e.2 * mono (cs.take (e.1.map V.int).length) (e.1.take (e.1.map V.int).length))), v6, v7, v8, ?_⟩, s2⟩
        rw [List.length_map, hkl, List.take_of_length_le (by omega : cs.length ≤ n), List.take_of_length_le (by omega : e.1.length ≤ n), S_take_succ (mono cs) (k := e.1) (c := e.2) (by rw [he])]
        rfl
    · rintro σ H' ⟨⟨v3, v4, v5, v6, v7, v8, rfl⟩, s1⟩
      have etk : p.take (ts.map V.ref).length = p := by rw [List.length_map, htl, List.take_length]
      rw [etk]
      exact ⟨_, rfl, k _ s1⟩
theorem scAt : FnScope ["poly", "counts", "found", "powers", "factor", "power", "count", "k"] ["poly", "counts"] (defScope sAt) := ⟨rfl, rfl, rfl, by decide +kernel, rfl, by decide +kernel, by decide +kernel⟩
theorem ok_at {f : Addr} {fd : FuncData} (F : Fun K "_law_at" "_law_at" sAt f fd) (B : Blt mg) : FnOk P w K mg base CX0 1 f fd ["poly", "counts"] spEvl := by
  refine F.ok scAt (fun vs H Q E h => ?_) (fun cdv A outer s H vs Q E hr h => ?_)
  · obtain ⟨a, c, p, cs, n, bb, N, rfl, _⟩ := h
    rfl
  · obtain ⟨a, c, p, cs, n, bb, N, rfl, pa, op, hbb, hc, hcl, hcs, k⟩ := h
    refine ⟨_, pss_cons (ps_set (i := 2) scAt.nd rfl (Or.inl rfl) pe_int)
      (pss_cons (ps_for PassesOwn.never rfl (pi_tup (pv 0)) (pg_tup rfl (pgs_cons (pg_name (i := 3) scAt.nd rfl (.inl rfl)) (pgs_cons (pg_name (i := 4) scAt.nd rfl (.inl rfl)) pgs_nil)))
        (pss_cons (ps_for PassesOwn.never rfl (RZ.pi_zipA (by rfl) B.zip (pa_cons (pv 3) (pa_cons (pv 1) pa_nil))) (pg_tup rfl (pgs_cons (pg_name (i := 5) scAt.nd rfl (.inl rfl)) (pgs_cons (pg_name (i := 6) scAt.nd rfl (.inl rfl)) pgs_nil)))
          (pss_one (ps_for PassesOwn.never rfl (pi_range1 (by rfl) B.range (pa_cons (pv 5) pa_nil)) (pg_name (i := 7) scAt.nd rfl (Or.inl rfl))
            (pss_one (ps_set (i := 4) scAt.nd rfl (.inl rfl) (pe_op op_mul (pv 4) (pv 6)))))))
        (pss_one (ps_set (i := 2) scAt.nd rfl (.inl rfl) (pe_op op_add (pv 2) (pv 4))))))
      (pss_one (ps_ret (pv 2)))), ?_⟩
    obtain ⟨ts, ha, hp⟩ := pa.seq (K := K)
    have htl := Paired.length hp
    refine ⟨_, rfl, a, rfl, ⟨_, ha⟩, for_tup (K := K) (a := a) (xs := ts.map V.ref) (fun i σ H' => (∃ v3 v4 v6 v7 v8, σ = [some (.ref a), some (.ref c), some (.int (S (mono cs) (p.take i))), v3, v4, v6, v7, v8]) ∧ Same H H') ⟨⟨none, none, none, none, none, rfl⟩, fun _ _ e => e⟩ (fun i σ H' _ ⟨_, s1⟩ => seqT_same s1 ha) ?_ ?_⟩
    · rintro i x σ H' hx ⟨⟨v3, v4, v6, v7, v8, rfl⟩, s1⟩
      rw [List.getElem?_map] at hx
      obtain ⟨t, ht, rfl⟩ := Option.map_eq_some_iff.mp hx
      obtain ⟨e, he, kk, g1, g2⟩ := paired_at hp ht
      have hem : e ∈ p := List.mem_of_getElem? he
      have hkl : e.1.length = n := op.len e hem
      refine ⟨t, _, rfl, SqT.of (s1 _ _ g1), rfl, _, _, rfl, _, _, rfl, rfl, ?_⟩
      refine ⟨_, rfl, _, rfl, kk, c, _, _, rfl, .inr ⟨SqT.of (s1 _ _ g2), SqT.of (s1 _ _ hc), RZ.for_zipT (K := K) (a := kk) (b := c) (xs := e.1.map V.int) (ys := cs.map V.int) (by rw [List.length_map, List.length_map]; omega)
        (fun l σ H2 => (∃ v6 v7 v8, σ = [some (.ref a), some (.ref c), some (.int (S (mono cs) (p.take i))), some (.ref kk), some (.int (e.2 * mono (cs.take l) (e.1.take l))), v6, v7, v8]) ∧ Same H H2) ⟨⟨v6, v7, v8, ?_⟩, s1⟩ (fun l σ H2 ⟨_, s2⟩ => ⟨SqT.of (s2 _ _ g2), SqT.of (s2 _ _ hc)⟩) ?_ ?_⟩⟩
      · have : e.2 * mono (cs.take 0) (e.1.take 0) = e.2 := by
          rw [List.take_zero, List.take_zero, mono_nil, Int.mul_one]
        rw [this]
        rfl
      · rintro l x y T1 σ H2 hx hy ⟨⟨v6, v7, v8, rfl⟩, s2⟩ hT1
        rw [List.getElem?_map] at hx hy
        obtain ⟨x0, hx0, rfl⟩ := Option.map_eq_some_iff.mp hx
        obtain ⟨y0, hy0, rfl⟩ := Option.map_eq_some_iff.mp hy
        have hxb := op.lo e hem x0 (List.mem_of_getElem? hx0)
        have hyb := hcs y0 (List.mem_of_getElem? hy0)
        have s3 : Same H2 (upd H2 T1 (.tup [.int x0, .int y0])) := same_laid hT1
        refine ⟨T1, _, rfl, SqT.of upd_same, rfl, _, _, rfl, _, _, rfl, rfl, _, rfl, x0, rfl, by omega, by omega, for_range (lo := 0) (n := x0.toNat)
          (fun r σ H3 => (∃ v8, σ = [some (.ref a), some (.ref c), some (.int (S (mono cs) (p.take i))), some (.ref kk), some (.int (e.2 * mono (cs.take l) (e.1.take l) * y0 ^ r)), some (.int x0), some (.int y0), v8]) ∧ Same H H3) ⟨⟨v8, ?_⟩, same_tr s2 s3⟩ ?_ ?_⟩
        · rw [Int.pow_zero, Int.mul_one]
          rfl
        · rintro r σ H3 hr3 ⟨⟨v8, rfl⟩, s4⟩
          refine ⟨_, rfl, _, rfl, _, _, rfl, rfl, .inr ⟨by omega, by omega⟩, ⟨some (.int (0 + (r : Nat))), ?_⟩, s4⟩
          rw [Int.pow_succ, ← Int.mul_assoc]
          rfl
        · rintro σ H3 ⟨⟨v8, rfl⟩, s4⟩
          refine ⟨⟨some (.int x0), some (.int y0), v8, ?_⟩, s4⟩
          rw [mono_take_succ hy0 hx0, ← Int.mul_assoc]
      · rintro σ H2 ⟨⟨v6, v7, v8, rfl⟩, s2⟩
        refine ⟨_, rfl, _, rfl, _, _, rfl, rfl, ⟨some (.ref kk), some (.int (e.2 * mono (cs.take (e.1.map V.int).length) (e.1.take (e.1.map V.int).length))), v6, v7, v8, ?_⟩, s2⟩
        rw [List.length_map, hkl, List.take_of_length_le (by omega : cs.length ≤ n), List.take_of_length_le (by omega : e.1.length ≤ n), S_take_succ (mono cs) (k := e.1) (c := e.2) (by rw [he])]
        rfl
    · rintro σ H' ⟨⟨v3, v4, v6, v7, v8, rfl⟩, s1⟩
      have etk : p.take (ts.map V.ref).length = p := by rw [List.length_map, htl, List.take_length]
      rw [etk]
      exact ⟨_, rfl, k _ s1⟩
end
end K64
namespace K64
open PySem PySem.Spec PyProof.Rows L2
section
variable {P : Program} {w : World} {K : PySem.W.Frag} {mg : Str → Option Value} {base : Heap} {CN : Addr}
/-! ### the law's weights -/
def spWts : Sp := fun vs H Q _ => ∃ (u t3 tk c : Addr) (taken cs : List Int) (rate : Int), vs = [.ref u, .ref c] ∧ H u = some (.tup [.ref t3]) ∧ H t3 = some (.tup [.ref tk, .ref tk, .int rate]) ∧ H tk = some (.tup (taken.map V.int)) ∧ H c = some (.tup (cs.map V.int)) ∧ cs.length = taken.length ∧ TkOk taken ∧ (∀ x ∈ cs, 0 ≤ x ∧ x ≤ 100) ∧
  ∀ H' l, Same H H' → H' l = some (.lst [.int (wPre rate cs taken taken.length)]) → Q (.ref l) H'
theorem scWs : FnScope ["turns", "stand", "found", "first", "second", "rate", "many", "count", "k"] ["turns", "stand"] (defScope sWeights) := ⟨rfl, rfl, rfl, by decide +kernel, rfl, by decide +kernel, by decide +kernel⟩
theorem ok_weights {f : Addr} {fd : FuncData} (F : Fun K "_law_weights" "_law_weights" sWeights f fd) (B : Blt mg) : FnOk P w K mg base CX0 1 f fd ["turns", "stand"] spWts := by
  refine F.ok scWs (fun vs H Q E h => ?_) (fun cdv A outer s H vs Q E hr h => ?_)
  · obtain ⟨u, t3, tk, c, taken, cs, rate, rfl, _⟩ := h
    rfl
  · obtain ⟨u, t3, tk, c, taken, cs, rate, rfl, hu, ht3, htk, hc, hcl, tok, hcs, k⟩ := h
    refine ⟨_, pss_cons (ps_set (i := 2) scWs.nd rfl (Or.inl rfl) (pe_lst pa_nil))
      (pss_cons (ps_for PassesOwn.never rfl (pi_tup (pv 0)) (pg_tup rfl (pgs_cons (pg_name (i := 3) scWs.nd rfl (.inl rfl)) (pgs_cons (pg_name (i := 4) scWs.nd rfl (.inl rfl)) (pgs_cons (pg_name (i := 5) scWs.nd rfl (.inl rfl)) pgs_nil))))
        (pss_cons (ps_for PassesOwn.never rfl (RZ.pi_zipA (by rfl) B.zip (pa_cons (pv 3) (pa_cons (pv 1) pa_nil))) (pg_tup rfl (pgs_cons (pg_name (i := 6) scWs.nd rfl (.inl rfl)) (pgs_cons (pg_name (i := 7) scWs.nd rfl (.inl rfl)) pgs_nil)))
          (pss_one (ps_for PassesOwn.never rfl (pi_range1 (by rfl) B.range (pa_cons (pv 6) pa_nil)) (pg_name (i := 8) scWs.nd rfl (Or.inl rfl))
            (pss_one (ps_set (i := 5) scWs.nd rfl (.inl rfl) (pe_op op_mul (pv 5) (pe_callB (call_max2 rfl) (by rfl) B.max (by decide +kernel) (pa_cons (pe_op op_sub (pv 7) (pv 8)) (pa_cons pe_int pa_nil)))))))))
        (pss_one (ps_expr (pe_bm PySem.F.plainAttrs_list PySem.F.slot_list_append PySem.F.type_list_append mt_append (pv 2) (pa_cons (pv 5) pa_nil))))))
      (pss_one (ps_ret (pv 2)))), ?_⟩
    refine ⟨Nat.zero_le _, fun l nl => ?_⟩
    have s0 : Same H (upd H l (.lst [])) := same_laid nl
    refine ⟨_, rfl, u, rfl, ⟨_, SqT.of (s0 _ _ hu)⟩, for_tup (K := K) (a := u) (xs := [.ref t3]) (fun i σ H' => (∃ v3 v4 v5 v6 v7 v8, σ = [some (.ref u), some (.ref c), some (.ref l), v3, v4, v5, v6, v7, v8]) ∧ Same H H' ∧ H' l = some (.lst (List.replicate i (.int (wPre rate cs taken taken.length))))) ⟨⟨none, none, none, none, none, none, rfl⟩, s0, upd_same⟩ (fun i σ H' _ ⟨_, s1, _⟩ => SqT.of (s1 _ _ hu)) ?_ ?_⟩
    · rintro i x σ H' hx ⟨⟨v3, v4, v5, v6, v7, v8, rfl⟩, s1, hl⟩
      obtain ⟨hi, rfl⟩ : i = 0 ∧ x = .ref t3 := by
        cases i with
        | zero => exact ⟨rfl, (Option.some.inj hx).symm⟩
        | succ i => rw [List.getElem?_cons_succ, List.getElem?_nil] at hx; cases hx
      subst hi
      have n4 := tok.ln
      refine ⟨t3, _, rfl, SqT.of (s1 _ _ ht3), rfl, _, _, rfl, _, _, rfl, _, _, rfl, rfl, ?_⟩
      refine ⟨_, rfl, _, rfl, tk, c, _, _, rfl, .inr ⟨SqT.of (s1 _ _ htk), SqT.of (s1 _ _ hc), RZ.for_zipT (K := K) (a := tk) (b := c) (xs := taken.map V.int) (ys := cs.map V.int) (by rw [List.length_map, List.length_map]; omega)
        (fun i σ H2 => (∃ v6 v7 v8, σ = [some (.ref u), some (.ref c), some (.ref l), some (.ref tk), some (.ref tk), some (.int (wPre rate cs taken i)), v6, v7, v8]) ∧ Same H' H2) ⟨⟨v6, v7, v8, rfl⟩, fun _ _ e => e⟩ (fun i σ H2 ⟨_, s2⟩ => ⟨SqT.of (s2 _ _ (s1 _ _ htk)), SqT.of (s2 _ _ (s1 _ _ hc))⟩) ?_ ?_⟩⟩
      · rintro i x y T1 σ H2 hx hy ⟨⟨v6, v7, v8, rfl⟩, s2⟩ hT1
        rw [List.getElem?_map] at hx hy
        obtain ⟨m, hm, rfl⟩ := Option.map_eq_some_iff.mp hx
        obtain ⟨y0, hy0, rfl⟩ := Option.map_eq_some_iff.mp hy
        have hmb := tok.en m (List.mem_of_getElem? hm)
        have hyb := hcs y0 (List.mem_of_getElem? hy0)
        have g1 : taken.getD i 0 = m := by rw [List.getD_eq_getElem?_getD, hm]; rfl
        have g2 : cs.getD i 0 = y0 := by rw [List.getD_eq_getElem?_getD, hy0]; rfl
        have s3 : Same H2 (upd H2 T1 (.tup [.int m, .int y0])) := same_laid hT1
        refine ⟨T1, _, rfl, SqT.of upd_same, rfl, _, _, rfl, _, _, rfl, rfl, _, rfl, m, rfl, by omega, by omega, for_range (lo := 0) (n := m.toNat)
          (fun r σ H3 => (∃ v8, σ = [some (.ref u), some (.ref c), some (.ref l), some (.ref tk), some (.ref tk), some (.int (wRow (wPre rate cs taken i) y0 r)), some (.int m), some (.int y0), v8]) ∧ Same H' H3) ⟨⟨v8, rfl⟩, same_tr s2 s3⟩ ?_ ?_⟩
        · rintro r σ H3 hr3 ⟨⟨v8, rfl⟩, s4⟩
          refine ⟨_, rfl, _, rfl, _, rfl, _, _, rfl, rfl, _, _, rfl, _, _, rfl, rfl, .inr ?_, ⟨some (.int (0 + (r : Nat))), ?_⟩, s4⟩
          · split <;> constructor <;> omega
          · rw [Int.zero_add]
            rfl
        · rintro σ H3 ⟨⟨v8, rfl⟩, s4⟩
          refine ⟨⟨some (.int m), some (.int y0), v8, ?_⟩, s4⟩
          show _ = [some (.ref u), some (.ref c), some (.ref l), some (.ref tk), some (.ref tk), some (.int (wRow (wPre rate cs taken i) (cs.getD i 0) (taken.getD i 0).toNat)), some (.int m), some (.int y0), v8]
          rw [g1, g2]
      · rintro σ H2 ⟨⟨v6, v7, v8, rfl⟩, s2⟩
        have hl2 := s2 _ _ hl
        refine ⟨_, rfl, .inl ⟨rfl, _, SqL.of hl2⟩, _, rfl, l, _, _, rfl, rfl, hl2, small1000 (Nat.zero_le _), ⟨some (.ref tk), some (.ref tk), some (.int (wPre rate cs taken (taken.map V.int).length)), v6, v7, v8, rfl⟩, fun b o e => ?_, ?_⟩
        · rw [upd_ne (ne_of_none e nl)]
          exact s2 _ _ (s1 _ _ e)
        · rw [upd_same, List.length_map]
          rfl
    · rintro σ H' ⟨⟨v3, v4, v5, v6, v7, v8, rfl⟩, s1, hl⟩
      exact ⟨_, rfl, k _ l s1 hl⟩
/-! ### the bag of draws -/
structure BagAt (H : Hp) (b l : Addr) : Prop where
  ex : ∃ (x0 x1 x2 : Int) (cells : List Int), H b = some (.lst [.int x0, .int x1, .int x2, .ref l]) ∧ H l = some (.lst (cells.map V.int)) ∧ b ≠ l ∧ 0 ≤ x0 ∧ 0 ≤ x1 ∧ x1 < 2147483647 ∧ 0 ≤ x2 ∧ cells.length ≤ 63
/-- all but lists and tables stay -/
def ExtX (H H' : Hp) : Prop := ∀ a o, H a = some o → (∀ l, o ≠ .lst l) → (∀ ps, o ≠ .tbl ps) → H' a = some o
theorem ExtX.of {H H' : Hp} (s : Same H H') : ExtX H H' := fun a o e _ _ => s a o e
theorem ExtX.tr {H H1 H2 : Hp} (a : ExtX H H1) (b : ExtX H1 H2) : ExtX H H2 := fun x o e h1 h2 => b x o (a x o e h1 h2) h1 h2
/-- the same but at b -/
def SameBut (b : Addr) (H H' : Hp) : Prop := ∀ a o, a ≠ b → H a = some o → H' a = some o
theorem SameBut.of {b : Addr} {H H' : Hp} (s : Same H H') : SameBut b H H' := fun a o _ e => s a o e
theorem SameBut.tr {b : Addr} {H H1 H2 : Hp} (x : SameBut b H H1) (y : SameBut b H1 H2) : SameBut b H H2 := fun a o n e => y a o n (x a o n e)
def spBag (K : PySem.W.Frag) : Sp := fun vs H Q _ => ∃ (a : Addr) (ns : List Int), vs = [.ref a] ∧ SqL K H a (ns.map V.int) ∧ ns.length ≤ 63 ∧ ∀ H' b l, Same H H' → H b = none → H l = none → BagAt H' b l → Q (.ref b) H'
theorem scBa : FnScope ["script", "cell"] ["script"] (defScope sBag) := ⟨rfl, rfl, rfl, by decide +kernel, rfl, by decide +kernel, by decide +kernel⟩
theorem cut_ints (xs : List Int) (lo hi : Option Int) : ∃ ys : List Int, cutV (xs.map V.int) lo hi = ys.map V.int ∧ ys.length ≤ xs.length := by
  have h := cutV_length (xs.map V.int) lo hi
  unfold cutV at *
  refine ⟨(xs.drop _).take _, by rw [← List.map_drop, ← List.map_take], ?_⟩
  rw [List.length_take, List.length_drop]
  omega
theorem ok_bag {f : Addr} {fd : FuncData} (F : Fun K "_law_bag" "_law_bag" sBag f fd) (B : Blt mg) : FnOk P w K mg base CX0 1 f fd ["script"] (spBag K) := by
  refine F.ok scBa (fun vs H Q E h => ?_) (fun cdv A outer s H vs Q E hr h => ?_)
  · obtain ⟨a, ns, rfl, _⟩ := h
    rfl
  · obtain ⟨a, ns, rfl, ha, hn, k⟩ := h
    refine ⟨_, pss_one (ps_ret (pe_lst (pa_cons pe_int (pa_cons pe_int (pa_cons pe_int (pa_cons (pe_lc (own := [("cell", 1)]) (g := gName 1) (tt := tYes) rfl scBa.nd (pi_list (pe_slice sl_list (pv 0) po_none (po_some pe_int)))
      (blkOk_by (own := [("cell", 1)]) (N := ["script", "cell"]) (sc := defScope sBag) (by decide +kernel))
      (fun _ _ _ _ _ => pg_name (i := 1) scBa.nd rfl (Or.inl rfl)) (fun _ _ _ _ _ => pts_nil) (fun _ _ _ _ _ => pe_callB (r := fun xs H Q => ∃ i, xs = [.int i] ∧ Q (.int (if i < 0 then -i else i)) H) call_abs (by rfl) B.abs (by decide +kernel) (pa_cons (pv 1) pa_nil))) pa_nil)))))), ?_⟩
    refine ⟨_, rfl, _, rfl, a, _, rfl, ha, fun p np => ?_⟩
    obtain ⟨ys, e1, e2⟩ := cut_ints ns none (some 63)
    rw [e1]
    have s0 : Same H (upd H p (.lst (ys.map V.int))) := same_laid np
    refine ⟨p, rfl, ⟨_, SqL.of upd_same⟩, fun D hD => lc_list (K := K) (a := p) (xs := ys.map V.int) (fun i H' => Same (upd H p (.lst (ys.map V.int))) H' ∧ ∃ zs : List Int, H' D = some (.lst (zs.map V.int)) ∧ zs.length = i) ⟨same_laid hD, [], upd_same, rfl⟩ (fun i H' _ ⟨s1, _⟩ => SqL.of (s1 _ _ upd_same)) ?_ ?_⟩
    · rintro i x H' hx ⟨s1, zs, hz, hzl⟩
      rw [List.getElem?_map] at hx
      obtain ⟨x0, hx0, rfl⟩ := Option.map_eq_some_iff.mp hx
      have hil := (List.getElem?_eq_some_iff.mp hx0).1
      refine ⟨rfl, tYes_i (iteT ⟨_, rfl, x0, rfl, _, hz, small1000 (by rw [List.length_map]; omega), fun b o e => ?_, zs ++ [if x0 < 0 then -x0 else x0], ?_, by simp [hzl]⟩)⟩
      · rw [upd_ne (ne_of_none e hD)]
        exact s1 _ _ e
      · rw [upd_same, List.map_append]
        rfl
    · rintro H' ⟨s1, zs, hz, hzl⟩
      refine ⟨by show 4 ≤ sizeLine; decide, fun b nb => ?_⟩
      have s2 : Same H' (upd H' b (.lst [.int 0, .int 1234567891, .int 0, .ref D])) := same_laid nb
      rw [List.length_map] at hzl
      exact k _ b D (same_tr s0 (same_tr s1 s2)) (same_none s0 (same_none s1 nb)) (same_none s0 hD) ⟨0, 1234567891, 0, zs, upd_same, s2 _ _ hz, (ne_of_none hz nb).symm, by decide, by decide, by decide, by decide, by omega⟩
end
end K64
namespace K64
open PySem PySem.Spec PyProof.Rows L2
section
variable {P : Program} {w : World} {K : PySem.W.Frag} {mg : Str → Option Value} {base : Heap} {CN : Addr}
/-! ### a draw -/
def spTake : Sp := fun vs H Q _ => ∃ (b l : Addr) (m : Nat), vs = [.ref b, .int (m : Nat)] ∧ 1 ≤ m ∧ m ≤ 1000 ∧ BagAt H b l ∧ ∀ H' (v : Nat), v < m → BagAt H' b l → SameBut b H H' → Q (.int (v : Nat)) H'
theorem scTk : FnScope ["bag", "many", "cell", "stirred", "value", "first", "second"] ["bag", "many"] (defScope sTake) := ⟨rfl, rfl, rfl, by decide +kernel, rfl, by decide +kernel, by decide +kernel⟩
theorem at_cat {ys : List Int} : ∃ c : Int, atI (ys.map V.int ++ [V.int 0]) 0 = some (.int c) := by
  cases ys with
  | nil => exact ⟨0, atI_nat (j := 0) rfl⟩
  | cons y ys => exact ⟨y, atI_nat (j := 0) rfl⟩
theorem ok_take {f : Addr} {fd : FuncData} (F : Fun K "_law_take" "_law_take" sTake f fd) (B : Blt mg) : FnOk P w K mg base CX0 1 f fd ["bag", "many"] spTake := by
  refine F.ok scTk (fun vs H Q E h => ?_) (fun cdv A outer s H vs Q E hr h => ?_)
  · obtain ⟨b, l, m, rfl, _⟩ := h
    rfl
  · obtain ⟨b, l, m, rfl, hm1, hm2, bg, k⟩ := h
    have ii := fun (e : Expr) (te : TE) (p : Pos) => True
    refine ⟨_, pss_cons (ps_if (pt_cmpR op_eq (pe_ix ix_list (pv 0) pe_int (fun _ _ => rfl)) pe_int (nomark _))
        (pss_cons (ps_set (i := 2) scTk.nd rfl (Or.inl rfl) (pe_ix ix_list (pe_op op_cat (pe_slice sl_list (pe_ix ix_list (pv 0) pe_int (fun _ _ => rfl)) (po_some (pe_ix ix_list (pv 0) pe_int (fun _ _ => rfl))) po_none) (pe_lst (pa_cons pe_int pa_nil))) pe_int (fun _ _ => rfl)))
        (pss_cons (ps_augS (pv 0) pe_int get_list pe_int ip_add set_list)
        (pss_cons (ps_if (pt_cmpR op_ge (pv 2) (pe_op op_pow pe_int pe_int) (nomark _)) (pss_one (ps_asg (pv 2) (pg_sub (pv 0) pe_int set_list))) pss_nil)
        (pss_cons (ps_set (i := 3) scTk.nd rfl (Or.inl rfl) (pe_op op_add (pe_op op_add (pe_op op_mul (pe_ix ix_list (pv 0) pe_int (fun _ _ => rfl)) pe_int) (pe_op op_mod (pe_callTy call_int1 (by rfl) B.int (by decide +kernel) (pa_cons (pv 2) pa_nil)) pe_int)) (pe_op op_mul pe_int (pe_ix ix_list (pv 0) pe_int (fun _ _ => rfl)))))
        (pss_one (ps_asg (pe_op op_mod (pe_callTy call_int1 (by rfl) B.int (by decide +kernel) (pa_cons (pv 3) pa_nil)) pe_int) (pg_sub (pv 0) pe_int set_list))))))) pss_nil)
      (pss_cons (ps_if (pt_cmpR op_gt (pe_ix ix_list (pv 0) pe_int (fun _ _ => rfl)) pe_int (nomark _))
        (pss_cons (ps_set (i := 4) scTk.nd rfl (Or.inl rfl) (pe_op op_mod (pe_callTy call_int1 (by rfl) B.int (by decide +kernel) (pa_cons (pe_ix ix_list (pv 0) pe_int (fun _ _ => rfl)) pa_nil)) (pv 1)))
        (pss_cons (ps_asg (pe_op op_fdivN (pe_callTy call_int1 (by rfl) B.int (by decide +kernel) (pa_cons (pe_ix ix_list (pv 0) pe_int (fun _ _ => rfl)) pa_nil)) (pv 1)) (pg_sub (pv 0) pe_int set_list))
        (pss_one (ps_ret (pv 4))))) pss_nil)
      (pss_cons (ps_set (i := 5) scTk.nd rfl (Or.inl rfl) (pe_op op_mod (pe_callTy call_int1 (by rfl) B.int (by decide +kernel) (pa_cons (pe_op op_mul (pe_op op_add (pe_ix ix_list (pv 0) pe_int (fun _ _ => rfl)) pe_int) pe_int) pa_nil)) pe_int))
      (pss_cons (ps_set (i := 6) scTk.nd rfl (Or.inl rfl) (pe_op op_mod (pe_callTy call_int1 (by rfl) B.int (by decide +kernel) (pa_cons (pe_op op_mul (pe_op op_mod (pe_callTy call_int1 (by rfl) B.int (by decide +kernel) (pa_cons (pe_op op_mul (pv 5) (pv 5)) pa_nil)) pe_int) pe_int) pa_nil)) pe_int))
      (pss_one (ps_ret (pe_op op_mod (pe_callTy call_int1 (by rfl) B.int (by decide +kernel) (pa_cons (pe_op op_fdivN (pv 6) pe_int) pa_nil)) (pv 1))))))), ?_⟩
    obtain ⟨x0, x1, x2, cells, hb, hl, hbl, p0, p1, q1, p2, hln⟩ := bg
    have at0 : ∀ {a b c d : V}, atI [a, b, c, d] 0 = some a := atI_nat (j := 0) rfl
    have at1 : ∀ {a b c d : V}, atI [a, b, c, d] 1 = some b := atI_nat (j := 1) rfl
    have at2 : ∀ {a b c d : V}, atI [a, b, c, d] 2 = some c := atI_nat (j := 2) rfl
    have at3 : ∀ {a b c d : V}, atI [a, b, c, d] 3 = some d := atI_nat (j := 3) rfl
    refine ⟨_, rfl, b, _, 0, _, rfl, rfl, SqL.of hb, at0, rfl, ?_⟩
    by_cases h0 : x0 = 0
    case' neg =>
      rw [show decide (V.int x0 = V.int 0) = false from decide_eq_false fun z => h0 (by injection z)]
      refine ⟨_, rfl, iteF ?_⟩
      have s1 : SameBut b H H := .of fun _ _ e => e
      obtain ⟨y0, y1, y2, hb1, r0, r1, r2, r3⟩ : ∃ y0 y1 y2 : Int, H b = some (.lst [.int y0, .int y1, .int y2, .ref l]) ∧ 0 ≤ y0 ∧ 0 ≤ y1 ∧ y1 < 2147483647 ∧ 0 ≤ y2 := ⟨x0, x1, x2, hb, p0, p1, q1, p2⟩
      have hl1 := hl
      obtain ⟨H1, eH⟩ : ∃ H1, H1 = H := ⟨H, rfl⟩
      rw [← eH] at hb1 hl1
      replace s1 : SameBut b H H1 := by rw [eH]; exact s1
      rw [← eH]
    case' pos =>
      rw [show decide (V.int x0 = V.int 0) = true from decide_eq_true (by rw [h0])]
      obtain ⟨ys, e1, e2⟩ := cut_ints cells (some x2) none
      obtain ⟨c, hc0⟩ := at_cat (ys := ys)
      refine ⟨_, rfl, iteT ⟨_, rfl, b, _, 3, _, rfl, rfl, SqL.of hb, at3, _, rfl, b, _, 2, _, rfl, rfl, SqL.of hb, at2, x2, rfl, l, _, rfl, SqL.of hl, fun p np => ?_⟩⟩
      rw [e1]
      refine ⟨by show 1 ≤ sizeLine; decide, fun t2 n2 => ?_⟩
      have sa : Same H (upd H p (.lst (ys.map V.int))) := same_laid np
      have sb : Same (upd H p (.lst (ys.map V.int))) (upd (upd H p (.lst (ys.map V.int))) t2 (.lst [.int 0])) := same_laid n2
      refine ⟨p, t2, _, _, rfl, rfl, sb _ _ upd_same, upd_same, by rw [List.length_map, sizeLine_eq]; show ys.length + 1 ≤ _; omega, fun t3 n3 => ?_⟩
      have sc := same_laid (o := .lst (ys.map V.int ++ [V.int 0])) n3
      have sA : Same H _ := same_tr sa (same_tr sb sc)
      refine ⟨t3, _, 0, _, rfl, rfl, SqL.of upd_same, hc0, ?_⟩
      have hb3 := sA _ _ hb
      have hl3 := sA _ _ hl
      generalize upd (upd (upd H p (.lst (ys.map V.int))) t2 (.lst [.int 0])) t3 (.lst (ys.map V.int ++ [V.int 0])) = H3 at sA hb3 hl3
      refine ⟨_, rfl, b, _, 2, _, rfl, rfl, SqL.of hb3, by decide, at2, _, _, rfl, rfl, b, _, 2, 2, rfl, rfl, hb3, rfl, ?_⟩
      have sd : SameBut b H (upd H3 b (.lst ([V.int x0, .int x1, .int x2, .ref l].set 2 (.int (x2 + 1))))) := fun a o n e => by rw [upd_ne n]; exact sA a o e
      have hb4 : upd H3 b (.lst ([V.int x0, .int x1, .int x2, .ref l].set 2 (.int (x2 + 1)))) b = some (.lst [.int x0, .int x1, .int (x2 + 1), .ref l]) := upd_same
      have hl4 : upd H3 b (.lst ([V.int x0, .int x1, .int x2, .ref l].set 2 (.int (x2 + 1)))) l = some (.lst (cells.map V.int)) := by rw [upd_ne (Ne.symm hbl)]; exact hl3
      generalize upd H3 b (.lst ([V.int x0, .int x1, .int x2, .ref l].set 2 (.int (x2 + 1)))) = H4 at sd hb4 hl4
      refine ⟨_, rfl, _, _, rfl, rfl, ⟨by decide, by decide, by decide⟩, _, _, rfl, rfl, _, rfl, ?_⟩
      by_cases hc : (10 : Int) ^ (18 : Int).toNat ≤ c
      case' pos =>
        rw [decide_eq_true hc]
        refine iteT ⟨_, rfl, _, rfl, b, _, 0, 0, rfl, rfl, hb4, rfl, ?_⟩
        have s5 : SameBut b H (upd H4 b (.lst ([V.int x0, .int x1, .int (x2 + 1), .ref l].set 0 (.int c)))) := fun a o n e => by rw [upd_ne n]; exact sd a o n e
        have hl5 : upd H4 b (.lst ([V.int x0, .int x1, .int (x2 + 1), .ref l].set 0 (.int c))) l = some (.lst (cells.map V.int)) := by rw [upd_ne (Ne.symm hbl)]; exact hl4
        have hc0' : 0 ≤ c := by
          have : (0 : Int) < 10 ^ (18 : Int).toNat := by decide
          omega
        obtain ⟨y0, hb5, r0⟩ : ∃ y0 : Int, upd H4 b (.lst ([V.int x0, .int x1, .int (x2 + 1), .ref l].set 0 (.int c))) b = some (.lst [.int y0, .int x1, .int (x2 + 1), .ref l]) ∧ 0 ≤ y0 := ⟨c, upd_same, hc0'⟩
        generalize upd H4 b (.lst ([V.int x0, .int x1, .int (x2 + 1), .ref l].set 0 (.int c))) = H5 at s5 hl5 hb5
      case' neg =>
        rw [decide_eq_false hc]
        refine iteF ?_
        have s5 := sd
        have hl5 := hl4
        obtain ⟨y0, hb5, r0⟩ : ∃ y0 : Int, H4 b = some (.lst [.int y0, .int x1, .int (x2 + 1), .ref l]) ∧ 0 ≤ y0 := ⟨x0, hb4, p0⟩
        generalize H4 = H5 at s5 hl5 hb5
      all_goals
        refine ⟨_, rfl, b, _, 1, _, rfl, rfl, SqL.of hb5, at1, _, _, rfl, rfl, .inr ⟨by decide, by decide⟩, _, rfl, .inl ⟨c, rfl, _, _, rfl, rfl, (by show (0 : Int) < 2147483647; decide), _, _, rfl, rfl, _, rfl, b, _, 2, _, rfl, rfl, SqL.of hb5, at2, _, _, rfl, rfl, .inl ⟨by decide, by decide⟩, _, _, rfl, rfl, ?_⟩⟩
        refine ⟨_, rfl, .inl ⟨_, rfl, _, _, rfl, rfl, (by show (0 : Int) < 2147483647; decide), _, rfl, b, _, 1, 1, rfl, rfl, hb5, rfl, ?_⟩⟩
        dsimp only
        generalize hst : (x1 * 48271 + c % 2147483647 + 7919 * (x2 + 1)) % 2147483647 = st
        have hst1 : 0 ≤ st ∧ st < 2147483647 := by rw [← hst]; exact ⟨Int.emod_nonneg _ (by decide), Int.emod_lt_of_pos _ (by decide)⟩
        have s1 : SameBut b H (upd H5 b (.lst ([V.int y0, .int x1, .int (x2 + 1), .ref l].set 1 (.int st)))) := fun a o n e => by rw [upd_ne n]; exact s5 a o n e
        have hl1 : upd H5 b (.lst ([V.int y0, .int x1, .int (x2 + 1), .ref l].set 1 (.int st))) l = some (.lst (cells.map V.int)) := by rw [upd_ne (Ne.symm hbl)]; exact hl5
        obtain ⟨y1, y2, hb1, r1, r2, r3⟩ : ∃ y1 y2 : Int, upd H5 b (.lst ([V.int y0, .int x1, .int (x2 + 1), .ref l].set 1 (.int st))) b = some (.lst [.int y0, .int y1, .int y2, .ref l]) ∧ 0 ≤ y1 ∧ y1 < 2147483647 ∧ 0 ≤ y2 := ⟨st, x2 + 1, upd_same, hst1.1, hst1.2, by omega⟩
        generalize upd H5 b (.lst ([V.int y0, .int x1, .int (x2 + 1), .ref l].set 1 (.int st))) = H1 at s1 hl1 hb1
    all_goals
      refine ⟨_, rfl, b, _, 0, _, rfl, rfl, SqL.of hb1, at0, _, _, rfl, rfl, _, rfl, ?_⟩
      have mp : (0 : Int) < (m : Nat) := by omega
      by_cases hp : 0 < y0
      · rw [decide_eq_true hp]
        refine iteT ⟨_, rfl, b, _, 0, _, rfl, rfl, SqL.of hb1, at0, .inl ⟨y0, rfl, _, rfl, _, _, rfl, rfl, mp, _, rfl, b, _, 0, _, rfl, rfl, SqL.of hb1, at0, .inl ⟨y0, rfl, _, rfl, _, _, rfl, rfl, ⟨by omega, by omega⟩, _, rfl, b, _, 0, 0, rfl, rfl, hb1, rfl, _, rfl, ?_⟩⟩⟩
        have hv : y0 % (m : Nat) = ((y0 % (m : Nat)).toNat : Nat) := (Int.toNat_of_nonneg (Int.emod_nonneg _ (by omega))).symm
        have hlt : (y0 % (m : Nat)).toNat < m := by
          have := Int.emod_lt_of_pos y0 mp
          omega
        have fin := k (upd H1 b (.lst ([V.int y0, .int y1, .int y2, .ref l].set 0 (.int (y0.fdiv (m : Nat)))))) (y0 % (m : Nat)).toNat hlt ⟨y0.fdiv (m : Nat), y1, y2, cells, upd_same, by rw [upd_ne (Ne.symm hbl)]; exact hl1, hbl, Int.fdiv_nonneg (by omega) (by omega), r1, r2, r3, hln⟩ (fun a o n e => by rw [upd_ne n]; exact s1 a o n e)
        rw [← hv] at fin
        exact fin
      · rw [decide_eq_false hp]
        refine iteF ⟨_, rfl, b, _, 1, _, rfl, rfl, SqL.of hb1, at1, _, _, rfl, rfl, _, _, rfl, rfl, .inr ⟨by decide, by decide⟩, .inl ⟨_, rfl, _, _, rfl, rfl, (by show (0 : Int) < 1000000007; decide), ?_⟩⟩
        dsimp only
        generalize hfi : (y1 + 1) * 39373 % 1000000007 = fi
        have hfi1 : 0 ≤ fi ∧ fi < 1000000007 := by rw [← hfi]; exact ⟨Int.emod_nonneg _ (by decide), Int.emod_lt_of_pos _ (by decide)⟩
        refine ⟨_, rfl, _, rfl, _, _, rfl, rfl, .inl ⟨by omega, by omega⟩, .inl ⟨_, rfl, _, _, rfl, rfl, (by show (0 : Int) < 998244353; decide), _, _, rfl, rfl, .inr ⟨by decide, by decide⟩, .inl ⟨_, rfl, _, _, rfl, rfl, (by show (0 : Int) < 998244353; decide), ?_⟩⟩⟩
        dsimp only
        generalize fi * fi % 998244353 * 30011 % 998244353 = se
        refine ⟨_, rfl, _, _, rfl, rfl, ⟨by decide, by decide⟩, .inl ⟨_, rfl, _, rfl, _, _, rfl, rfl, mp, ?_⟩⟩
        have hv : (se.fdiv 7) % (m : Nat) = (((se.fdiv 7) % (m : Nat)).toNat : Nat) := (Int.toNat_of_nonneg (Int.emod_nonneg _ (by omega))).symm
        have hlt : ((se.fdiv 7) % (m : Nat)).toNat < m := by
          have := Int.emod_lt_of_pos (se.fdiv 7) mp
          omega
        have fin := k H1 ((se.fdiv 7) % (m : Nat)).toNat hlt ⟨y0, y1, y2, cells, hb1, hl1, hbl, r0, r1, r2, r3, hln⟩ s1
        rw [← hv] at fin
        exact fin
end
end K64
namespace K64
open PySem PySem.Spec PyProof.Rows L2
theorem SameBut.at_ {b l : Addr} {H H' : Hp} (s : SameBut b H H') (g : BagAt H b l) {a : Addr} {o : HO} (e : H a = some o) (ho : ∀ l, o ≠ .lst l) : H' a = some o := by
  obtain ⟨x0, x1, x2, cells, hb, _⟩ := g.ex
  refine s a o (fun z => ?_) e
  rw [z, hb] at e
  exact ho _ (Option.some.inj e).symm
theorem ExtX.but {b l : Addr} {H H' : Hp} (s : SameBut b H H') (g : BagAt H b l) : ExtX H H' := fun a o e h1 _ => s.at_ g e h1
theorem BagAt.same {b l : Addr} {H H' : Hp} (s : Same H H') (g : BagAt H b l) : BagAt H' b l := by
  obtain ⟨x0, x1, x2, cells, hb, hl, r⟩ := g.ex
  exact ⟨x0, x1, x2, cells, s _ _ hb, s _ _ hl, r⟩
theorem BagAt.up {b l a : Addr} {o : HO} {H : Hp} (g : BagAt H b l) (h1 : a ≠ b) (h2 : a ≠ l) : BagAt (upd H a o) b l := by
  obtain ⟨x0, x1, x2, cells, hb, hl, r⟩ := g.ex
  exact ⟨x0, x1, x2, cells, by rw [upd_ne (Ne.symm h1)]; exact hb, by rw [upd_ne (Ne.symm h2)]; exact hl, r⟩
theorem BagAt.ne {b l a : Addr} {H : Hp} (g : BagAt H b l) (h : H a = none) : a ≠ b ∧ a ≠ l := by
  obtain ⟨x0, x1, x2, cells, hb, hl, r⟩ := g.ex
  exact ⟨fun z => (by rw [z, hb] at h; cases h), fun z => (by rw [z, hl] at h; cases h)⟩
theorem norm_le4 : ∀ {D : Pol}, (∀ e ∈ D, e.2.natAbs ≤ 4) → norm D ≤ 4 * D.length
  | [], _ => Nat.le_refl _
  | (k, c) :: r, h => by
    have h1 := h (k, c) List.mem_cons_self
    have h2 := norm_le4 (D := r) fun e he => h e (List.mem_cons_of_mem _ he)
    simp only [norm, List.length_cons]
    have : c.natAbs ≤ 4 := h1
    omega
theorem mem_putP2 {x : List Int} {v : Int} : ∀ {d : Pol} {e : List Int × Int}, e ∈ putP d x v → e = (x, v) ∨ e ∈ d
  | [], e, h => by
    simp [putP] at h
    exact .inl h
  | (k, c) :: r, e, h => by
    by_cases hk : k = x
    · simp only [putP, hk, if_true] at h
      rcases List.mem_cons.mp h with h | h
      · exact .inl h
      · exact .inr (List.mem_cons_of_mem _ h)
    · simp only [putP, hk, if_false] at h
      rcases List.mem_cons.mp h with h | h
      · exact .inr (h ▸ List.mem_cons_self)
      · rcases mem_putP2 h with h | h
        · exact .inl h
        · exact .inr (List.mem_cons_of_mem _ h)
section
variable {P : Program} {w : World} {K : PySem.W.Frag} {mg : Str → Option Value} {base : Heap} {CN : Addr}
/-! ### a drawn polynomial -/
def spPoly : Sp := fun vs H Q _ => ∃ (b l : Addr) (n : Nat), vs = [.ref b, .int (n : Nat)] ∧ 1 ≤ n ∧ n ≤ 4 ∧ BagAt H b l ∧ ∀ H' a p, SameBut b H H' → BagAt H' b l → PolAt H' a p → Ok n 2 16 p → Q (.ref a) H'
theorem scPy : FnScope ["bag", "pots", "terms", "k", "powers", "pot", "factor"] ["bag", "pots"] (defScope sPoly) := ⟨rfl, rfl, rfl, by decide +kernel, rfl, by decide +kernel, by decide +kernel⟩
theorem ok_poly {f : Addr} {fd : FuncData} (F : Fun K "_law_poly" "_law_poly" sPoly f fd) (B : Blt mg) (GTk : Fn P w K mg base CX0 1 "_law_take" ["bag", "many"] spTake) : FnOk P w K mg base CX0 2 f fd ["bag", "pots"] spPoly := by
  refine F.ok scPy (fun vs H Q E h => ?_) (fun cdv A outer s H vs Q E hr h => ?_)
  · obtain ⟨b, l, n, rfl, _⟩ := h
    rfl
  · obtain ⟨b, l, n, rfl, hn1, hn4, bg, k⟩ := h
    have hu : (A.deeper (envOfC "_law_poly" (defScope sPoly) s.heap.objs.size f cdv)).units + 1 < cLine := hu_of hr
    refine ⟨_, pss_cons (ps_set (i := 2) scPy.nd rfl (Or.inl rfl) pe_dnewT)
      (pss_cons (ps_for PassesOwn.never rfl (pi_range1 (by rfl) B.range (pa_cons (pe_fn GTk hr (by rfl) pass0 (pa_cons (pv 0) (pa_cons pe_int pa_nil))) pa_nil)) (pg_name (i := 3) scPy.nd rfl (Or.inl rfl))
        (pss_cons (ps_set (i := 4) scPy.nd rfl (Or.inl rfl) (pe_callTy call_tuple_of (by rfl) B.tuple (by decide +kernel) (pa_cons
          (pe_lc (own := [("pot", 5)]) (g := gName 5) (tt := tYes) rfl scPy.nd (pi_range1 (by rfl) B.range (pa_cons (pv 1) pa_nil)) (blkOk_by (own := [("pot", 5)]) (N := ["bag", "pots", "terms", "k", "powers", "pot", "factor"]) (sc := defScope sPoly) (by decide +kernel))
            (fun _ _ _ _ _ => pg_name (i := 5) scPy.nd rfl (Or.inl rfl)) (fun _ _ _ _ _ => pts_nil) (fun _ _ _ _ _ => pe_fn GTk hr (by rfl) pass0 (pa_cons (pv 0) (pa_cons pe_int pa_nil)))) pa_nil)))
        (pss_one (ps_dput hu (pv 2) (pv 4) (pe_op op_sub (pe_fn GTk hr (by rfl) pass0 (pa_cons (pv 0) (pa_cons pe_int pa_nil))) pe_int) rfl))))
      (pss_one (ps_ret (pe_callTy call_tupleP (by rfl) B.tuple (by decide +kernel) (pa_cons (pe_callB cr_sortedD (by rfl) B.sorted (by decide +kernel) (pa_cons (pe_lock
        (pe_lc (own := [("powers", 4), ("factor", 6)]) (g := gTup K 2 (gCons (gName 4) (gCons (gName 6) gNil))) rfl scPy.nd (pi_itemsT (pv 2)) (blkOk_by (own := [("powers", 4), ("factor", 6)]) (N := ["bag", "pots", "terms", "k", "powers", "pot", "factor"]) (sc := defScope sPoly) (by decide +kernel))
        (fun _ _ _ _ _ => pg_tup rfl (pgs_cons (pg_name (i := 4) scPy.nd rfl (.inl rfl) (.inr rfl)) (pgs_cons (pg_name (i := 6) scPy.nd rfl (.inl rfl) (.inr rfl)) pgs_nil))) (fun _ _ _ _ _ => pts_one (pt_cmpR op_ne (pv 6) pe_int (nomark _))) (fun _ _ _ _ _ => pe_tup (pa_cons (pv 4) (pa_cons (pv 6) pa_nil))))) pa_nil)) pa_nil))))), ?_⟩
    intro d nd
    have sd : Same H (upd H d (.dT [])) := same_laid nd
    have hd0 : upd H d (.dT []) d = some (.dT (encD [])) := upd_same
    have nbd := (bg.ne nd).1
    refine ⟨_, rfl, b, l, 5, rfl, by decide, by decide, bg.same sd, fun H1 v hv g1 s1 => ?_⟩
    have hd1 : H1 d = some (.dT (encD [])) := s1 d _ nbd hd0
    have s1' : SameBut b H H1 := SameBut.tr (.of sd) s1
    refine ⟨(v : Nat), rfl, by omega, by omega, for_range (lo := 0) (n := ((v : Nat) : Int).toNat) (fun i σ H' => (∃ v3 v4, σ = [some (.ref b), some (.int (n : Nat)), some (.ref d), v3, v4, none, none]) ∧ SameBut b H H' ∧ BagAt H' b l ∧ ∃ D : Pol, H' d = some (.dT (encD D)) ∧ (D.map (·.1)).Nodup ∧ D.length ≤ i ∧ ∀ e ∈ D, e.2.natAbs ≤ 4 ∧ e.1.length = n ∧ ∀ x ∈ e.1, 0 ≤ x ∧ x ≤ ((2 : Nat) : Int)) ⟨⟨none, none, rfl⟩, s1', g1, [], hd1, by simp, Nat.le_refl _, by simp⟩ ?_ ?_⟩
    · rintro i σ H2 hi ⟨⟨v3, v4, rfl⟩, s2, g2, D, hd2, hnd, hln, hD⟩
      refine ⟨_, rfl, (n : Nat), rfl, by omega, by omega, fun D2 hD2 => ?_⟩
      obtain ⟨nD2b, nD2l⟩ := g2.ne hD2
      have s20 : SameBut b H2 (upd H2 D2 (.lst [])) := .of (same_laid hD2)
      have g20 := g2.same (same_laid (o := .lst []) hD2)
      refine lc_range (lo := 0) (n := ((n : Nat) : Int).toNat) (fun j H3 => SameBut b H2 H3 ∧ BagAt H3 b l ∧ ∃ ks : List Int, H3 D2 = some (.lst (ks.map V.int)) ∧ ks.length = j ∧ ∀ x ∈ ks, 0 ≤ x ∧ x ≤ ((2 : Nat) : Int)) ⟨s20, g20, [], upd_same, rfl, by simp⟩ ?_ ?_
      · rintro j H3 hj ⟨s3, g3, ks, hk, hkl, hkb⟩
        refine ⟨rfl, tYes_i (iteT ⟨_, rfl, b, l, 3, rfl, by decide, by decide, g3, fun H4 x hx g4 s4 => ?_⟩)⟩
        have hk4 := s4 D2 _ nD2b hk
        refine ⟨_, hk4, small1000 (by rw [List.length_map]; omega), fun a o na e => ?_, g4.up nD2b nD2l, ks ++ [((x : Nat) : Int)], ?_, by simp [hkl], fun y hy => ?_⟩
        · rw [upd_ne (ne_of_none e hD2)]
          exact s4 a o na (s3 a o na e)
        · rw [upd_same, List.map_append]
          rfl
        · rcases List.mem_append.mp hy with hy | hy
          · exact hkb y hy
          · rw [List.mem_singleton] at hy
            subst hy
            omega
      · rintro H3 ⟨s3, g3, ks, hk, hkl, hkb⟩
        refine ⟨D2, _, rfl, .inl ⟨SqL.of hk, fun t nt => ?_⟩⟩
        have st : Same H3 (upd H3 t (.tup (ks.map V.int))) := same_laid nt
        refine ⟨_, rfl, b, l, 9, rfl, by decide, by decide, g3.same st, fun H5 y hy g5 s5 => ?_⟩
        have ht5 : H5 t = some (.tup ((kEnc ks).map kV)) := by
          rw [kEnc_kV]
          exact s5 t _ (g3.ne nt).1 upd_same
        have hd5 : H5 d = some (.dT (encD D)) := s5 d _ nbd (st _ _ (s3 d _ nbd hd2))
        have s6 : SameBut b H H5 := s2.tr (s3.tr (SameBut.tr (.of st) s5))
        refine ⟨_, _, rfl, rfl, _, rfl, _, rfl, d, _, rfl, DPut.t hd5 ht5 (small1000 (by rw [length_encD]; omega)), ⟨some (.int (0 + (i : Nat))), some (.ref t), rfl⟩, fun a o na e => ?_, g5.up nbd (bg.ne nd).2, putP D ks ((y : Nat) - 4), ?_, keys_putP hnd, ?_, fun e he => ?_⟩
        · rw [upd_ne (ne_of_none e nd)]
          exact s6 a o na e
        · rw [upd_same, putK_enc hnd]
        · have := length_putP (x := ks) (v := ((y : Nat) : Int) - 4) (d := D)
          omega
        · rcases mem_putP2 he with rfl | he
          · refine ⟨by show (((y : Nat) : Int) - 4).natAbs ≤ 4; omega, by show ks.length = n; omega, hkb⟩
          · exact hD e he
    · rintro σ H2 ⟨⟨v3, v4, rfl⟩, s2, g2, D, hd2, hnd, hln, hD⟩
      have hl4 : D.length ≤ 4 := by omega
      refine ⟨d, .dT (encD D), hd2, trivial, fun od2 => ⟨_, rfl, d, od2, encD D, rfl, upd_same, fun D2 hD2 => ?_⟩⟩
      have nD2 : D2 ≠ d := fun z => by rw [z, upd_same] at hD2; cases hD2
      have hD2' : H2 D2 = none := by rw [upd_ne nD2] at hD2; exact hD2
      refine lc_gen (n := D.length) (fun i H' => (∀ b o, b ≠ d → H2 b = some o → H' b = some o) ∧ H' d = some (.frz od2 (.dT (encD D))) ∧ ∃ ts : List Addr, H' D2 = some (.lst (ts.map V.ref)) ∧ Paired (PAt H') ts ((D.take i).filter fun e => e.2 != 0)) ?_ ?_ ?_ ?_ ?_
      · refine ⟨fun b o hb e => ?_, by rw [upd_ne (Ne.symm nD2), upd_same], [], by rw [upd_same]; rfl, .nil⟩
        rw [upd_ne (ne_of_none e hD2'), upd_ne hb]
        exact e
      · rintro i H' hi ⟨k1, k2, k3⟩
        exact ⟨k2, by rw [length_encD]; exact hi⟩
      · rintro H' ⟨k1, k2, k3⟩
        exact ⟨k2, by rw [length_encD]; exact Nat.le_refl _⟩
      · rintro i x H' H'' hi ⟨k1, k2, ts, k3, k4⟩ ⟨T1, q, kk, v, h1, rfl, hT1, hq1, rfl⟩
        obtain ⟨e, he, rfl, rfl⟩ := get_enc h1
        rw [kEnc_kV] at hq1
        have nT : ∀ b o, H' b = some o → b ≠ T1 := fun b o e => ne_of_none e hT1
        have sT : Same H' (upd H' T1 (.tup [.ref q, .int e.2])) := fun b o e => by rw [upd_ne (nT b o e)]; exact e
        have hlen : ts.length ≤ 1000 := by
          have h1 := Paired.length k4
          have h2 : ((D.take i).filter fun e => e.2 != 0).length ≤ (D.take i).length := List.length_filter_le _ _
          rw [List.length_take] at h2
          omega
        refine ⟨T1, _, rfl, SqT.of upd_same, rfl, _, _, rfl, _, _, rfl, rfl, rfl, _, rfl, rfl, _, rfl, ?_⟩
        have dne : (!decide (V.int e.2 = V.int 0)) = (e.2 != 0) := by
          by_cases hz : e.2 = 0
          · simp [hz]
          · have : ¬ V.int e.2 = V.int 0 := fun z => hz (by injection z)
            simp [hz, this]
        rw [dne]
        by_cases hz : e.2 = 0
        · have hb : (e.2 != 0) = false := by simp [hz]
          rw [hb]
          refine iteF ⟨fun b o hb e' => sT b o (k1 b o hb e'), sT _ _ k2, ts, sT _ _ k3, ?_⟩
          rw [take_more' he, List.filter_append]
          have : List.filter (fun e : List Int × Int => e.2 != 0) [e] = [] := by simp [hz]
          rw [this, List.append_nil]
          exact paired_imp (fun t x hx => hx.ext (.of sT)) k4
        · have hb : (e.2 != 0) = true := by simp [hz]
          rw [hb]
          refine iteT ⟨_, rfl, _, rfl, by show 2 ≤ sizeLine; decide, fun t nt => ?_⟩
          have nt' : H' t = none := same_none sT nt
          have sT2 : Same H' (upd (upd H' T1 (.tup [.ref q, .int e.2])) t (.tup [.ref q, .int e.2])) := same_tr sT (same_laid nt)
          refine ⟨ts.map V.ref, sT2 _ _ k3, small1000 (by rw [List.length_map]; exact hlen), fun b o hb e' => ?_, ?_, ts ++ [t], ?_, ?_⟩
          · rw [upd_ne (ne_of_none e' hD2')]
            exact sT2 b o (k1 b o hb e')
          · rw [upd_ne (Ne.symm nD2)]
            exact sT2 _ _ k2
          · rw [upd_same, List.map_append]
            rfl
          · rw [take_more' he, List.filter_append]
            have : List.filter (fun e : List Int × Int => e.2 != 0) [e] = [e] := by simp [hz]
            rw [this]
            have up : ∀ {a : Addr} {x : HO}, (∀ l, x ≠ .lst l) → upd (upd H' T1 (.tup [.ref q, .int e.2])) t (.tup [.ref q, .int e.2]) a = some x → upd (upd (upd H' T1 (.tup [.ref q, .int e.2])) t (.tup [.ref q, .int e.2])) D2 (.lst (ts.map V.ref ++ [.ref t])) a = some x := by
              intro a x hx ha
              by_cases hb : a = D2
              · rw [hb, sT2 _ _ k3] at ha
                cases ha
                exact absurd rfl (hx _)
              · rw [upd_ne hb]; exact ha
            refine paired_snoc ⟨q, up (fun l z => by cases z) upd_same, up (fun l z => by cases z) (sT2 _ _ hq1)⟩ (paired_imp (fun a x hx => ?_) k4)
            obtain ⟨q', g1, g2⟩ := hx
            exact ⟨q', up (fun l z => by cases z) (sT2 _ _ g1), up (fun l z => by cases z) (sT2 _ _ g2)⟩
      · rintro H' ⟨k1, k2, ts, k3, k4⟩
        rw [List.take_length] at k4
        have sH2 : Same H2 (upd H' d (.dT (encD D))) := fun b o e => by
          by_cases hb : b = d
          · rw [hb, upd_same, ← hd2, ← hb]; exact e
          · rw [upd_ne hb]; exact k1 b o hb e
        have k3' : upd H' d (.dT (encD D)) D2 = some (.lst (ts.map V.ref)) := by rw [upd_ne nD2]; exact k3
        have k4' : Paired (PAt (upd H' d (.dT (encD D)))) ts (D.filter fun e => e.2 != 0) := paired_imp (fun t x hx => by
          obtain ⟨q', g1, g2⟩ := hx
          exact ⟨q', by rw [upd_ne (ne_of g1 k2 (by intro z; cases z))]; exact g1, by rw [upd_ne (ne_of g2 k2 (by intro z; cases z))]; exact g2⟩) k4
        refine ⟨k2, ?_⟩
        generalize upd H' d (.dT (encD D)) = H3 at sH2 k3' k4'
        refine ⟨D2, ts.map V.ref, (D.filter fun e => e.2 != 0).map encE, rfl, SqL.of k3', dpPairs k4', W.AllAlike.of alikeE, W.Sortable.tuples fun b => ⟨_, _, rfl⟩, fun x hx => ?_, fun p np => ?_⟩
        · obtain ⟨e, _, rfl⟩ := List.mem_map.mp hx
          rw [depthE]
          have := hr.units
          show (A.deeper _).units + 2 + 2 < cLine
          omega
        obtain ⟨ts', e1, k5⟩ := sort_paired k4'
        rw [e1]
        refine ⟨p, _, rfl, SqL.of upd_same, fun a o na hod => ?_⟩
        have na' : H3 a = none := same_none (same_laid np) na
        have sH3 : Same H3 (upd (upd H3 p (.lst (ts'.map V.ref))) a (.frz o (.tup (ts'.map V.ref)))) := same_tr (same_laid np) (same_laid na)
        have sA : Same H2 (upd (upd H3 p (.lst (ts'.map V.ref))) a (.frz o (.tup (ts'.map V.ref)))) := same_tr sH2 sH3
        have hnz : ∀ e ∈ tidyP D, e.2 ≠ 0 := fun e he => (mem_tidy.mp he).2
        have hnm : norm (tidyP D) ≤ 16 := by
          have h1 := norm_tidy D
          have h2 := norm_le4 fun e he => (hD e he).1
          omega
        refine k _ a (tidyP D) (s2.tr (.of sA)) (g2.same sA) ⟨o, ts', upd_same, hod, paired_imp (fun t x hx => hx.ext (.of sH3)) k5⟩ ⟨asc_tidy hnd, hnz, fun e he => (hD e (mem_tidy.mp he).1).2.1, fun e he => (hD e (mem_tidy.mp he).1).2.2, hnm⟩
end
end K64
namespace K64
open PySem PySem.Spec PyProof.Rows L2 LamX
theorem okX_code {P : Program} {w : World} {K : PySem.W.Frag} {mg : Str → Option Value} {base : Heap} {x qual : Str} {st : Stmt} {f c : Addr} {kV doc pm ct oc : Value} {an od : Option Addr} {osl : Array (Option Value)} {N ps : List Str} {k : Nat} {sp : Sp}
    (lk : K.lookup f = some ⟨oc, od, .func (PySem.W.fnOf x qual (defArgs st) (defBody st) (defScope st) .none kV doc pm an (.ref c) ct), osl⟩) (hcd : PySem.W.codeIn K (.ref c) qual = true) (S : FnScope N ps (defScope st)) (len : ∀ vs H Q E, sp vs H Q E → vs.length = ps.length)
    (hbody : ∀ (A : Around) (outer : List Env) (s : Shared) (H : Hp) (vs : List V) (Q : VK) (E : XK), Room k (A.deeper (envOfC qual (defScope st) s.heap.objs.size f (.ref c))) → sp vs H Q E →
      ∃ t, PSs (cxOf (L2.CX P w) P w K mg base N qual (defScope st) f (.ref c) A outer s H E) (defBody st) t ∧ t { nx := fun _ H' => Q .non H', rt := Q } (L2.start N vs) H) :
    FnOk P w K mg base (L2.CX P w) (k + 1) f (PySem.W.fnOf x qual (defArgs st) (defBody st) (defScope st) .none kV doc pm an (.ref c) ct) ps sp :=
  fn_of lk hcd S len fun A outer s H vs Q E hr hsp => hbody A outer s H vs Q E hr hsp
def qLam (x : Str) : Str := x ++ ".<locals>." ++ "<lambda>"
theorem Lead.place {p : Pol} {L : List Int} {r : Int} {n : Nat} (h : Lead p L r) (ha : Asc p) (hz : ∀ e ∈ p, e.2 ≠ 0) (hl : ∀ e ∈ p, e.1.length = n) (hn : L.length = n) (hr : r ≠ 0) : ∃ m : Nat, p[m]? = some (L, r) ∧ ∀ (j : Nat) (e : List Int × Int), p[j]? = some e → j ≠ m → e.1.sum < L.sum := by
  obtain ⟨m, hm⟩ := List.getElem?_of_mem (h.mem ha hr)
  refine ⟨m, hm, fun j e hj hne => ?_⟩
  have hem : e ∈ p := List.mem_of_getElem? hj
  refine h.lt ha hz hem (by rw [hl e hem, hn]) fun z => ?_
  obtain ⟨h1, e1⟩ := List.getElem?_eq_some_iff.mp hm
  obtain ⟨h2, e2⟩ := List.getElem?_eq_some_iff.mp hj
  have hp := List.pairwise_iff_getElem.mp ha
  rcases Nat.lt_or_gt_of_ne hne with g | g
  · have := hp j m h2 h1 g
    rw [e1, e2, z] at this
    exact lt_irr _ this
  · have := hp m j h1 h2 g
    rw [e1, e2, z] at this
    exact lt_irr _ this
theorem sum_le8 {L : List Int} (h : TkOk L) : L.sum ≤ 8 := by
  have h1 := sum_bound (k := L) (b := 2) fun x hx => by have := h.en x hx; omega
  have h2 : L.length * 2 ≤ 8 := by have := h.ln; omega
  omega
section
variable {P : Program} {w : World} {K : PySem.W.Frag} {mg : Str → Option Value} {base : Heap} {CN : Addr}
/-! ### side_of -/
def sideQ (n : Nat) (p : Pol) (L : List Int) (r : Int) (H' : Hp) (Q : VK) : Prop :=
  (p = [] → Q .non H') ∧ (p ≠ [] → r < 1 → Q .non H') ∧ (p ≠ [] → ¬ r < 1 → p ≠ weightP L r → Q .non H') ∧ (p ≠ [] → ¬ r < 1 → p = weightP L r → ∀ t q H2, Same H' H2 → H2 t = some (.tup [.ref q, .int r]) → H2 q = some (.tup (L.map V.int)) → Q (.ref t) H2)
def spSide (T : List (Addr × Str)) : Sp := fun vs H Q _ => ∃ (a : Addr) (p : Pol) (n bb N : Nat) (L : List Int) (r : Int), vs = [.ref a, .int (n : Nat)] ∧ PolAt H a p ∧ Ok n bb N p ∧ TkOk L ∧ L.length = n ∧ r.natAbs ≤ 20 ∧ (p ≠ [] → Lead p L r ∧ r ≠ 0) ∧ Tabs T H ∧
  ∀ H', ExtN H H' → Tabs T H' → sideQ n p L r H' Q
theorem scSi : FnScope ["told", "pots", "powers", "rate"] ["told", "pots"] (defScope sSideOf) := ⟨rfl, rfl, rfl, by decide +kernel, rfl, by decide +kernel, by decide +kernel⟩
theorem ok_side {f c PT : Addr} {kV doc pm ct oc : Value} {an od : Option Addr} {osl : Array (Option Value)} {Tt : List (Addr × Str)} (T : Txt K mg CN)
    (lk : K.lookup f = some ⟨oc, od, .func (PySem.W.fnOf "side_of" "side_of" (defArgs sSideOf) (defBody sSideOf) (defScope sSideOf) .none kV doc pm an (.ref c) ct), osl⟩) (hcd : PySem.W.codeIn K (.ref c) "side_of" = true)
    (TB : TabB base mg c PT) (hmT : (PT, qLam "side_of") ∈ Tt) (hu : ∀ p ∈ Tt, p.1 = PT → p.2 = qLam "side_of")
    (GW : Fn P w K mg base (L2.CX P w) 6 "weight_of_side" ["taken", "rate"] spWei) : FnOk P w K mg base (L2.CX P w) 7 f (PySem.W.fnOf "side_of" "side_of" (defArgs sSideOf) (defBody sSideOf) (defScope sSideOf) .none kV doc pm an (.ref c) ct) ["told", "pots"] (spSide Tt) := by
  refine okX_code lk hcd scSi (fun vs H Q E h => ?_) (fun A outer s H vs Q E hr h => ?_)
  · obtain ⟨a, p, n, bb, N, L, r, rfl, _⟩ := h
    rfl
  · obtain ⟨a, p, n, bb, N, L, r, rfl, pa, op, tok, hLn, hr20, hld, htb, k⟩ := h
    obtain ⟨t8, m8⟩ := T.mx
    obtain ⟨CT, gT⟩ := T.gT
    obtain ⟨fW, fdW, FW, mW, kW, bW⟩ := GW.ex
    refine ⟨_, pss_cons (ps_if (pt_cmpR (op_eqD hr.units) (pv 0) (pe_tup pa_nil) (nomark _)) (pss_one (ps_ret pe_non)) pss_nil)
      (pss_cons (ps_asg (pe_maxKey (k := 4) (T := Tt) (p := ⟨0, 0, 0, 0⟩) rfl hr (by rfl) T.B.max (pa_cons (pv 0) pa_nil) TB rfl hmT hu (by rfl) (by rfl) (by decide +kernel) (by exact ⟨rfl, rfl, rfl, by decide +kernel, rfl, by decide +kernel, by decide +kernel⟩) (by rfl) (by rfl) T.B.sum (by intros; rfl))
          (pg_tup rfl (pgs_cons (pg_name (i := 2) scSi.nd rfl (.inl rfl)) (pgs_cons (pg_name (i := 3) scSi.nd rfl (.inl rfl)) pgs_nil))))
      (pss_cons (ps_if (PW.pt (pw_or (pt_cmpR op_lt (pv 3) pe_int (nomark _)) (pw_or (pt_cmpR op_ne (pe_callB (r := rLenS K) call_lenS (by rfl) T.B.len PySem.boot_len (pa_cons (pv 2) pa_nil)) (pv 1) (nomark _))
          (pw_or1 (pt_cmpR op_gt (pe_callB (cr_sumT rfl) (by rfl) T.B.sum boot_sum (pa_cons (pv 2) pa_nil)) (pe_glob (v := .int 8) rfl m8 ⟨_, rfl⟩) (nomark _)))))) (pss_one (ps_ret pe_non)) pss_nil)
      (pss_one (ps_try_only rfl rfl ⟨rfl, by decide, .inl gT⟩ L2.takes0
        (fun W pn xe tk _ => pss_one (ps_ret (pe_ifExp (pt_cmpR (r := rEqD K) (op_eqD hr.units) (pv 0) (pe_callS FW hr rfl mW kW bW (fun σ => passAt tk σ) (pa_cons (pv 2) (pa_cons (pv 3) pa_nil))) (nomark _)) (pe_tup (pa_cons (pv 2) (pa_cons (pv 3) pa_nil))) pe_non)))
        (fun a oe cls d pn _ _ => pss_one (ps_ret pe_non)))))), ?_⟩
    refine ⟨_, rfl, Nat.zero_le _, fun t1 n1 => ?_⟩
    have s1 : Same H (upd H t1 (.tup [])) := same_laid n1
    refine ⟨dPol p, dPol [], (pa.same s1).dp, dp_nil upd_same, shapedP _, shapedP _, ?_⟩
    rw [eqvP]
    generalize upd H t1 (.tup []) = H1 at s1
    have e1 : ExtN H H1 := .of s1
    have tb1 : Tabs Tt H1 := htb.ext s1
    by_cases hp0 : p = []
    · rw [decide_eq_true hp0]
      exact ⟨_, rfl, iteT ((k H1 e1 tb1).1 hp0)⟩
    · rw [decide_eq_false hp0]
      obtain ⟨hlead, hr0⟩ := hld hp0
      obtain ⟨m, hm, hlt⟩ := hlead.place op.asc op.nz op.len hLn hr0
      obtain ⟨o, ts, ha, _, hpp⟩ := pa.same s1
      have hml : m < ts.length := by
        have h1 := Paired.length hpp
        have h2 := (List.getElem?_eq_some_iff.mp hm).1
        omega
      obtain ⟨tm, htm⟩ : ∃ tm, ts[m]? = some tm := ⟨ts[m], List.getElem?_eq_getElem hml⟩
      refine ⟨_, rfl, iteF ⟨_, rfl, a, o, ts, p, m, L, r, tm, rfl, ha, hpp, hm, htm, hlt, tb1, fun H2 eN tb2 => ?_⟩⟩
      have eH2 : ExtN H H2 := e1.trans eN
      have kk := k H2 eH2 tb2
      obtain ⟨e', he', q, g1, g2⟩ := paired_at hpp htm
      rw [hm] at he'
      cases he'
      have g1' := eN _ _ g1 fun ps z => by cases z
      have g2' := eN _ _ g2 fun ps z => by cases z
      refine ⟨tm, _, rfl, SqT.of g1', rfl, _, _, rfl, _, _, rfl, rfl, _, rfl, _, _, rfl, rfl, _, rfl, ?_⟩
      by_cases hr1 : r < 1
      · rw [decide_eq_true hr1]
        exact iteT (iteT (kk.2.1 hp0 hr1))
      · rw [decide_eq_false hr1]
        have el : (!decide (V.int ((L.map V.int).length : Nat) = V.int (n : Nat))) = false := by
          rw [List.length_map, hLn]
          simp
        refine iteF ⟨_, rfl, q, _, rfl, .inr (SqT.of g2'), _, rfl, rfl, _, rfl, ?_⟩
        rw [el]
        refine iteF ⟨_, rfl, q, L, rfl, SqT.of g2', _, _, rfl, rfl, _, rfl, ?_⟩
        have h8 := sum_le8 tok
        rw [decide_eq_false (show ¬ (8 : Int) < L.sum by omega)]
        refine iteF ⟨_, rfl, _, rfl, _, rfl, q, L, r, rfl, g2', tok, hr20, fun H3 b s3 pb => ?_⟩
        refine ⟨dPol p, dPol (weightP L r), ((pa.ext eH2).same s3).dp, pb.dp, shapedP _, shapedP _, ?_⟩
        rw [eqvP]
        by_cases hw : p = weightP L r
        · rw [decide_eq_true hw]
          exact ⟨_, rfl, iteT ⟨_, rfl, _, rfl, by show 2 ≤ sizeLine; decide, fun t nt => kk.2.2.2 hp0 hr1 hw t q _ (same_tr s3 (same_laid nt)) upd_same (same_laid nt _ _ (s3 _ _ g2'))⟩⟩
        · rw [decide_eq_false hw]
          exact ⟨_, rfl, iteF ((k H3 (eH2.trans (.of s3)) (tb2.ext s3)).2.2.1 hp0 hr1 hw)⟩
end
end K64
namespace K64
open PySem PySem.Spec PyProof.Rows L2 LamX
theorem PE.weak {X : Cx} {e : Expr} {t t' : TE} (h : PE X e t) (w : ∀ σ H Q, t' σ H Q → t σ H Q) : PE X e t' := ⟨fun pins s σ H Q I q => h.run pins s σ H Q I (w σ H Q q)⟩
/-! ### the law's state -/
theorem BagAt.extN {b l : Addr} {H H' : Hp} (e : ExtN H H') (g : BagAt H b l) : BagAt H' b l := by
  obtain ⟨x0, x1, x2, cells, hb, hl, r⟩ := g.ex
  exact ⟨x0, x1, x2, cells, e _ _ hb fun ps z => (by cases z), e _ _ hl fun ps z => (by cases z), r⟩
theorem Tabs.but {T : List (Addr × Str)} {b l : Addr} {H H' : Hp} (s : SameBut b H H') (g : BagAt H b l) (t : Tabs T H) : Tabs T H' := fun p hp => by
  obtain ⟨ps, h1, h2, h3⟩ := t p hp
  refine ⟨ps, s.at_ g h1 fun l z => (by cases z), h2, fun pos cv hc => ?_⟩
  obtain ⟨c, e1, e2⟩ := h3 pos cv hc
  exact ⟨c, e1, s.at_ g e2 fun l z => by unfold CodeO at z; cases z⟩
theorem PAt.but {b l : Addr} {H H' : Hp} (s : SameBut b H H') (g : BagAt H b l) {t : Addr} {p : List Int × Int} (h : PAt H t p) : PAt H' t p := by
  obtain ⟨q, h1, h2⟩ := h
  exact ⟨q, s.at_ g h1 fun l z => (by cases z), s.at_ g h2 fun l z => (by cases z)⟩
theorem PolAt.but {b l : Addr} {H H' : Hp} (s : SameBut b H H') (g : BagAt H b l) {a : Addr} {p : Pol} (h : PolAt H a p) : PolAt H' a p := by
  obtain ⟨o, ts, h1, h2, h3⟩ := h
  exact ⟨o, ts, s.at_ g h1 fun l z => (by cases z), h2, paired_imp (fun t x hx => hx.but s g) h3⟩
/-! ### tuple([_law_take(bag, m) for pot in range(pots)]) -/
def rTup (K : PySem.W.Frag) : List V → Hp → VK → Prop := fun xs H Q => ∃ p ys, xs = [.ref p] ∧ ((SqL K H p ys ∧ ∀ l, H l = none → Q (.ref l) (upd H l (.tup ys))) ∨ (SqT K H p ys ∧ Q (.ref p) H))
theorem call_tup {X : Cx} : CallR X (.type "tuple") (rTup X.K) := call_tuple_of
def tDraws (m : Int) : TE := fun σ H Q => ∃ (b l : Addr) (n k : Nat), σ[1]? = some (some (.ref b)) ∧ σ[17]? = some (some (.int (n : Nat))) ∧ m = (k : Nat) ∧ n ≤ 10 ∧ 1 ≤ k ∧ k ≤ 1000 ∧ BagAt H b l ∧
  ∀ H' t (ks : List Int), SameBut b H H' → BagAt H' b l → H' t = some (.tup (ks.map V.int)) → ks.length = n → (∀ x ∈ ks, 0 ≤ x ∧ x < (k : Nat)) → Q (.ref t) H'
theorem set6 {σ : L2.St} {i : Nat} {v : Option V} (h : i ≠ 6) : (σ.set 6 v)[i]? = σ[i]? := by
  rw [List.getElem?_set_ne (Ne.symm h)]
theorem wipe6 {σ : L2.St} {i : Nat} (h : i ≠ 6) : (wipe σ [6])[i]? = σ[i]? := set6 (v := none) h
theorem pow25 : ∀ n : Nat, (1 : Int) ≤ 25 ^ n
  | 0 => by decide
  | n + 1 => by
    have := pow25 n
    rw [Int.pow_succ]
    omega
theorem draws_w {K : PySem.W.Frag} {m : Int} : ∀ σ H Q, tDraws m σ H Q → tCB (rTup K) (tCons (tLc (iRng1 (tCons (tVar 17) tNil)) (gName 6) tYes (tCall spTake [] L2.E0 (tCons (tVar 1) (tCons (tC (.int m)) tNil))) [6]) tNil) σ H Q := by
  rintro σ H Q ⟨b, l, n, k, h1, h17, rfl, hn, hk1, hk2, g, q⟩
  refine ⟨_, h17, (n : Nat), rfl, by omega, by omega, fun D2 hD2 => ?_⟩
  obtain ⟨nD2b, nD2l⟩ := g.ne hD2
  refine lc_range (lo := 0) (n := ((n : Nat) : Int).toNat) (fun j H3 => SameBut b H H3 ∧ BagAt H3 b l ∧ ∃ ks : List Int, H3 D2 = some (.lst (ks.map V.int)) ∧ ks.length = j ∧ ∀ x ∈ ks, 0 ≤ x ∧ x < (k : Nat)) ⟨.of (same_laid hD2), g.same (same_laid hD2), [], upd_same, rfl, by simp⟩ ?_ ?_
  · rintro j H3 hj ⟨s3, g3, ks, hk, hkl, hkb⟩
    refine ⟨?_, tYes_i (iteT ⟨_, ?_, b, l, k, rfl, hk1, hk2, g3, fun H4 x hx g4 s4 => ?_⟩)⟩
    · show ((σ.set 6 none).set 6 _).set 6 none = σ.set 6 none
      rw [List.set_set, List.set_set]
    · rw [set6 (by decide), wipe6 (by decide)]
      exact h1
    · have hk4 := s4 D2 _ nD2b hk
      refine ⟨_, hk4, small1000 (by rw [List.length_map]; omega), fun a o na e => ?_, g4.up nD2b nD2l, ks ++ [((x : Nat) : Int)], ?_, by simp [hkl], fun y hy => ?_⟩
      · rw [upd_ne (ne_of_none e hD2)]
        exact s4 a o na (s3 a o na e)
      · rw [upd_same, List.map_append]
        rfl
      · rcases List.mem_append.mp hy with hy | hy
        · exact hkb y hy
        · rw [List.mem_singleton] at hy
          subst hy
          omega
  · rintro H3 ⟨s3, g3, ks, hk, hkl, hkb⟩
    refine ⟨D2, _, rfl, .inl ⟨SqL.of hk, fun t nt => ?_⟩⟩
    have st : Same H3 (upd H3 t (.tup (ks.map V.int))) := same_laid nt
    exact q _ t ks (s3.tr (.of st)) (g3.same st) upd_same (by omega) hkb
/-! ### values are not great -/
theorem mono_bound : ∀ {cs ps : List Int}, (∀ x ∈ cs, 0 ≤ x ∧ x ≤ 5) → (∀ x ∈ ps, 0 ≤ x ∧ x ≤ 2) → 0 ≤ mono cs ps ∧ mono cs ps ≤ 25 ^ ps.length
  | [], ps, _, _ => by
    have : (1 : Int) ≤ 25 ^ ps.length := by
      exact pow25 _
    simp [mono]; omega
  | c :: cs, [], _, _ => by simp [mono]
  | c :: cs, p :: ps, hc, hp => by
    obtain ⟨i1, i2⟩ := mono_bound (cs := cs) (ps := ps) (fun x hx => hc x (List.mem_cons_of_mem _ hx)) (fun x hx => hp x (List.mem_cons_of_mem _ hx))
    have h1 := hc c List.mem_cons_self
    have h2 := hp p List.mem_cons_self
    have h3 : 0 ≤ c ^ p.toNat ∧ c ^ p.toNat ≤ 25 := by
      have hp3 : p = 0 ∨ p = 1 ∨ p = 2 := by omega
      have hc3 : c = 0 ∨ c = 1 ∨ c = 2 ∨ c = 3 ∨ c = 4 ∨ c = 5 := by omega
      rcases hp3 with rfl | rfl | rfl <;> rcases hc3 with rfl | rfl | rfl | rfl | rfl | rfl <;> decide
    show 0 ≤ c ^ p.toNat * mono cs ps ∧ c ^ p.toNat * mono cs ps ≤ 25 ^ (ps.length + 1)
    refine ⟨Int.mul_nonneg h3.1 i1, ?_⟩
    rw [Int.pow_succ, Int.mul_comm]
    exact Int.mul_le_mul i2 h3.2 h3.1 (by have := pow25 ps.length; omega)
theorem S_bound {φ : List Int → Int} {M : Int} (hM : 0 ≤ M) : ∀ {p : Pol}, (∀ e ∈ p, 0 ≤ φ e.1 ∧ φ e.1 ≤ M) → -(norm p * M) ≤ S φ p ∧ S φ p ≤ norm p * M
  | [], _ => by simp [S, norm]
  | (k, c) :: r, h => by
    obtain ⟨i1, i2⟩ := S_bound hM (p := r) fun e he => h e (List.mem_cons_of_mem _ he)
    have h1 := h (k, c) List.mem_cons_self
    have h2 : -((c.natAbs : Int) * M) ≤ c * φ k ∧ c * φ k ≤ (c.natAbs : Int) * M := by
      have e1 : (c * φ k).natAbs ≤ c.natAbs * M.toNat := by
        rw [Int.natAbs_mul]
        refine Nat.mul_le_mul (Nat.le_refl _) ?_
        have : 0 ≤ φ k ∧ φ k ≤ M := h1
        omega
      have e2 : ((c.natAbs * M.toNat : Nat) : Int) = (c.natAbs : Int) * M := by
        rw [Int.natCast_mul, Int.toNat_of_nonneg hM]
      omega
    show -(((c.natAbs + norm r : Nat) : Int) * M) ≤ c * φ k + S φ r ∧ c * φ k + S φ r ≤ ((c.natAbs + norm r : Nat) : Int) * M
    have e3 : ((c.natAbs + norm r : Nat) : Int) * M = (c.natAbs : Int) * M + (norm r : Int) * M := by
      rw [Int.natCast_add, Int.add_mul]
    rw [e3]
    omega
theorem eval_bound {n N : Nat} {p : Pol} {cs : List Int} (hp : Ok n 2 N p) (hn : n ≤ 4) (hN : N ≤ 16) (hc : ∀ x ∈ cs, 0 ≤ x ∧ x ≤ 5) : -(2 ^ 64 : Int) < evalP cs p ∧ evalP cs p < 2 ^ 64 := by
  have h := S_bound (φ := mono cs) (M := 390625) (by decide) (p := p) fun e he => by
    have h1 := mono_bound hc (ps := e.1) fun x hx => by have := hp.lo e he x hx; omega
    have h2 : e.1.length ≤ 4 := by have := hp.len e he; omega
    have h3 : (25 : Int) ^ e.1.length ≤ 390625 := by
      have : e.1.length = 0 ∨ e.1.length = 1 ∨ e.1.length = 2 ∨ e.1.length = 3 ∨ e.1.length = 4 := by omega
      rcases this with h | h | h | h | h <;> rw [h] <;> decide
    omega
  have h4 := hp.nm
  unfold evalP
  have h5 : (norm p : Int) * 390625 ≤ 16 * 390625 := by omega
  omega
end K64
namespace K64
open PySem PySem.Spec PyProof.Rows L2 LamX
structure Mid (b l : Addr) (Tt : List (Addr × Str)) (p q : Pol) (a1 a2 td c1 c2 c3 c4 : Addr) (H : Hp) : Prop where
  bg : BagAt H b l
  tb : Tabs Tt H
  one : PolAt H a1 p
  oth : PolAt H a2 q
  lst : H td = some (.lst [.ref c1, .ref c2, .ref c3, .ref c4])
  p1 : PolAt H c1 (plusP p q)
  p2 : PolAt H c2 (minusP p q)
  p3 : PolAt H c3 (timesP p q)
  p4 : PolAt H c4 (negP p)
variable {b l : Addr} {Tt : List (Addr × Str)} {p q : Pol} {a1 a2 td c1 c2 c3 c4 : Addr} {H H' : Hp}
theorem Mid.same (M : Mid b l Tt p q a1 a2 td c1 c2 c3 c4 H) (s : Same H H') : Mid b l Tt p q a1 a2 td c1 c2 c3 c4 H' :=
  ⟨M.bg.same s, M.tb.ext s, M.one.same s, M.oth.same s, s _ _ M.lst, M.p1.same s, M.p2.same s, M.p3.same s, M.p4.same s⟩
theorem Mid.but (M : Mid b l Tt p q a1 a2 td c1 c2 c3 c4 H) (nb : td ≠ b) (s : SameBut b H H') (g : BagAt H' b l) : Mid b l Tt p q a1 a2 td c1 c2 c3 c4 H' :=
  ⟨g, Tabs.but s M.bg M.tb, M.one.but s M.bg, M.oth.but s M.bg, s _ _ nb M.lst, M.p1.but s M.bg, M.p2.but s M.bg, M.p3.but s M.bg, M.p4.but s M.bg⟩
theorem Mid.item (M : Mid b l Tt p q a1 a2 td c1 c2 c3 c4 H) {n : Nat} (op : Ok n 2 16 p) (oq : Ok n 2 16 q) : ∀ {i : Nat} {x : V}, [V.ref c1, .ref c2, .ref c3, .ref c4][i]? = some x → ∃ (c : Addr) (r : Pol), x = .ref c ∧ PolAt H c r ∧ Ok n 4 256 r ∧ [plusP p q, minusP p q, timesP p q, negP p][i]? = some r
  | 0, x, h => ⟨c1, _, (Option.some.inj h).symm, M.p1, (op.plus oq).mono (by omega) (by omega), rfl⟩
  | 1, x, h => ⟨c2, _, (Option.some.inj h).symm, M.p2, (op.minus oq).mono (by omega) (by omega), rfl⟩
  | 2, x, h => ⟨c3, _, (Option.some.inj h).symm, M.p3, (op.times oq).mono (by omega) (by omega), rfl⟩
  | 3, x, h => ⟨c4, _, (Option.some.inj h).symm, M.p4, op.neg.mono (by omega) (by omega), rfl⟩
  | i + 4, x, h => by
    have h : ([] : List V)[i]? = some x := h
    rw [List.getElem?_nil] at h
    cases h
theorem eqv_listI (xs ys : List Int) : PyData.eqv (.list (xs.map .int)) (.list (ys.map .int)) = decide (xs = ys) := by
  rw [← eqv_ints]
  simp [PyData.eqv]
theorem shaped_listI (xs : List Int) : SeqAt.shaped (.list (xs.map .int)) = true := by
  show ((PyData.list (xs.map .int)).canLay0 && decide ((PyData.list (xs.map .int)).depth ≤ 64)) = true
  have h := W.depth_ints xs
  simp [PyData.canLay0, lay_ints, PyData.depth, h]
theorem eqv_listP (p q : Pol) : PyData.eqv (.list (p.map encE)) (.list (q.map encE)) = decide (p = q) := by
  have h := eqvP p q
  rw [← h]
  simp [dPol, PyData.eqv]
theorem shaped_listP (p : Pol) : SeqAt.shaped (.list (p.map encE)) = true := by
  have h := depth_pol p
  show ((PyData.list (p.map encE)).canLay0 && decide ((PyData.list (p.map encE)).depth ≤ 64)) = true
  rw [Bool.and_eq_true]
  refine ⟨?_, decide_eq_true ?_⟩
  · simp [PyData.canLay0, lay_pol]
  · simp only [PyData.depth]
    omega
theorem dp_listP {K : PySem.W.Frag} {a : Addr} {ts : List Addr} {r : Pol} (h : SqL K H a (ts.map V.ref)) (hp : Paired (PAt H) ts r) : Dp K H (.ref a) (.list (r.map encE)) := .lst h (dpPairs hp)
theorem ne_self_int (x : Int) : (!decide (V.int x = V.int x)) = false := by simp
theorem dp_side {K : PySem.W.Frag} {t q : Addr} {L : List Int} {r : Int} (h1 : H t = some (.tup [.ref q, .int r])) (h2 : H q = some (.tup (L.map V.int))) : Dp K H (.ref t) (encE (L, r)) := dpPair ⟨q, h1, h2⟩
theorem evals (cs : List Int) {n : Nat} (op : Ok n 2 16 p) (oq : Ok n 2 16 q) : [plusP p q, minusP p q, timesP p q, negP p].map (evalP cs) = [evalP cs p + evalP cs q, evalP cs p - evalP cs q, evalP cs p * evalP cs q, -evalP cs p] := by
  simp only [List.map_cons, List.map_nil]
  rw [eval_plus, eval_minus, eval_times cs op oq, eval_neg]
/-- the state behind the draw of a side -/
structure Fin (b l : Addr) (Tt : List (Addr × Str)) (p : Pol) (a1 : Addr) (taken : List Int) (tk : Addr) (W : Pol) (wa : Addr) (H : Hp) : Prop where
  bg : BagAt H b l
  tb : Tabs Tt H
  one : PolAt H a1 p
  tk : H tk = some (.tup (taken.map V.int))
  wt : PolAt H wa W
section
variable {b l : Addr} {Tt : List (Addr × Str)} {p : Pol} {a1 : Addr} {taken : List Int} {tk : Addr} {W : Pol} {wa : Addr} {H H' : Hp}
theorem Fin.same (M : Fin b l Tt p a1 taken tk W wa H) (s : Same H H') : Fin b l Tt p a1 taken tk W wa H' := ⟨M.bg.same s, M.tb.ext s, M.one.same s, s _ _ M.tk, M.wt.same s⟩
theorem Fin.ext (M : Fin b l Tt p a1 taken tk W wa H) (e : ExtN H H') (t : Tabs Tt H') : Fin b l Tt p a1 taken tk W wa H' := ⟨M.bg.extN e, t, M.one.ext e, e _ _ M.tk fun ps z => (by cases z), M.wt.ext e⟩
theorem Fin.but (M : Fin b l Tt p a1 taken tk W wa H) (s : SameBut b H H') (g : BagAt H' b l) : Fin b l Tt p a1 taken tk W wa H' := ⟨g, Tabs.but s M.bg M.tb, M.one.but s M.bg, s.at_ M.bg M.tk fun l z => (by cases z), M.wt.but s M.bg⟩
end
theorem shift_num {n : Nat} {s : Int} : shiftV n (numP n s) = .int s := by
  by_cases h : s = 0
  · subst h
    rw [numP_zero]
    rfl
  · rw [numP_ne h]
    show (if zeros n = zeros n then V.int s else .non) = _
    rw [if_pos rfl]
theorem shift_non {n : Nat} {r : Pol} {k : List Int} {c : Int} (h : (k, c) ∈ r) (hk : k ≠ zeros n) : shiftV n r = .non := by
  unfold shiftV
  rw [if_neg (fun z => by rw [z] at h; cases h)]
  split
  · rename_i k' c'
    rw [List.mem_singleton] at h
    cases h
    exact if_neg hk
  · rfl
theorem not_non_non : (!decide (V.non = V.non)) = false := by simp
theorem weight_ne {taken : List Int} {rate : Int} (h : ∀ x ∈ taken, 0 ≤ x ∧ x ≤ 2) (hr : rate ≠ 0) : weightP taken rate ≠ [] := fun z => by
  have := (Lead.weight (rate := rate) h).mem (Ok.weight (rate := rate) h).asc hr
  rw [z] at this
  cases this
theorem neg_ne {p : Pol} (h : p ≠ []) : negP p ≠ [] := fun z => by
  cases p with
  | nil => exact h rfl
  | cons e r => simp [negP] at z
theorem lead_ne {p : Pol} {L : List Int} {r : Int} (h : Lead p L r) (ha : Asc p) (hr : r ≠ 0) : p ≠ [] := fun z => by
  have := h.mem ha hr
  rw [z] at this
  cases this
end K64
namespace K64
open PySem PySem.Spec PyProof.Rows L2 LamX
abbrev NL : List Str := ["script", "bag", "lap", "other", "told", "turn", "pot", "counts", "mine", "its", "poly", "taken", "rate", "weight", "shift", "moved", "one", "pots", "powers", "factor"]
theorem scL : FnScope NL ["script"] (defScope sLaw) := ⟨rfl, rfl, rfl, by decide +kernel, rfl, by decide +kernel, by decide +kernel⟩
/-- the functions that the law calls -/
structure Fns (P : Program) (w : World) (K : PySem.W.Frag) (mg : Str → Option Value) (base : Heap) (CN : Addr) (Tt : List (Addr × Str)) : Prop where
  bag : Fn P w K mg base CX0 1 "_law_bag" ["script"] (spBag K)
  take : Fn P w K mg base CX0 1 "_law_take" ["bag", "many"] spTake
  poly : Fn P w K mg base CX0 2 "_law_poly" ["bag", "pots"] spPoly
  at_ : Fn P w K mg base CX0 1 "_law_at" ["poly", "counts"] spEvl
  worth : Fn P w K mg base CX0 1 "worth_at" ["told", "counts"] spEvl
  wts : Fn P w K mg base CX0 1 "_law_weights" ["turns", "stand"] spWts
  plus : Fn P w K mg base (L2.CX P w) 3 "plus" ["one", "other"] (spBin CN plusP)
  minus : Fn P w K mg base (L2.CX P w) 4 "minus" ["one", "other"] (spBin CN minusP)
  times : Fn P w K mg base (L2.CX P w) 3 "times" ["one", "other"] spTim
  neg : Fn P w K mg base CX0 1 "negative" ["one"] spNeg
  num : Fn P w K mg base (L2.CX P w) 3 "number" ["told", "pots"] spNum
  cnt : Fn P w K mg base (L2.CX P w) 3 "count_of" ["pot", "pots"] (spCnt CN)
  fall : Fn P w K mg base (L2.CX P w) 5 "falling" ["taken"] spFall
  wei : Fn P w K mg base (L2.CX P w) 6 "weight_of_side" ["taken", "rate"] spWei
  side : Fn P w K mg base (L2.CX P w) 7 "side_of" ["told", "pots"] (spSide Tt)
  shift : Fn P w K mg base (L2.CX P w) 5 "shift_of" ["told", "pot", "pots"] spShi
theorem scNo : FnScope ["act"] ["act"] (defScope sNothing) := ⟨rfl, rfl, rfl, by decide +kernel, rfl, by decide +kernel, by decide +kernel⟩
def spLaw (K : PySem.W.Frag) (Tt : List (Addr × Str)) : Sp := fun vs H Q _ => ∃ (a : Addr) (ns : List Int), vs = [.ref a] ∧ SqL K H a (ns.map V.int) ∧ ns.length ≤ 63 ∧ Tabs Tt H ∧ ∀ H', Q (.bl true) H'
section
variable {P : Program} {w : World} {K : PySem.W.Frag} {mg : Str → Option Value} {base : Heap} {CN : Addr}
theorem ok_law {f c PT g : Addr} {kV doc pm ct oc : Value} {an od : Option Addr} {osl : Array (Option Value)} {kVg docg pmg ctg ocg cdg : Value} {ang odg : Option Addr} {oslg : Array (Option Value)} {Tt : List (Addr × Str)} (T : Txt K mg CN) (eN : PySem.W.exmOne K (.ref CN) (.ref CN) = some true)
    (lk : K.lookup f = some ⟨oc, od, .func (PySem.W.fnOf "law" "law" (defArgs sLaw) (defBody sLaw) (defScope sLaw) .none kV doc pm an (.ref c) ct), osl⟩) (hcd : PySem.W.codeIn K (.ref c) "law" = true)
    (TB : TabB base mg c PT) (hmT : (PT, qLam "law") ∈ Tt) (hu : ∀ p ∈ Tt, p.1 = PT → p.2 = qLam "law")
    (lkg : K.lookup g = some ⟨ocg, odg, .func (PySem.W.fnOf "_law_is_nothing" "_law_is_nothing" (defArgs sNothing) (defBody sNothing) (defScope sNothing) .none kVg docg pmg ang cdg ctg), oslg⟩) (hcg : PySem.W.codeIn K cdg "_law_is_nothing" = true) (mg_ : mg "_law_is_nothing" = some (.ref g)) (kg : PySem.W.keepIn K (.ref g) = true)
    (bg : Binds K (PySem.W.fnOf "_law_is_nothing" "_law_is_nothing" (defArgs sNothing) (defBody sNothing) (defScope sNothing) .none kVg docg pmg ang cdg ctg) ["act"] [])
    (G : Fns P w K mg base CN Tt) : FnOk P w K mg base (L2.CX P w) 8 f (PySem.W.fnOf "law" "law" (defArgs sLaw) (defBody sLaw) (defScope sLaw) .none kV doc pm an (.ref c) ct) ["script"] (spLaw K Tt) := by
  refine okX_code lk hcd scL (fun vs H Q E h => ?_) (fun A outer s H vs Q E hr h => ?_)
  · obtain ⟨a, ns, rfl, _⟩ := h
    rfl
  · obtain ⟨a, ns, rfl, ha, hn, htb, k⟩ := h
    have hr1 := hr.mono (show 1 ≤ 7 by decide)
    have hr2 := hr.mono (show 2 ≤ 7 by decide)
    have hr3 := hr.mono (show 3 ≤ 7 by decide)
    have hr4 := hr.mono (show 4 ≤ 7 by decide)
    have hr5 := hr.mono (show 5 ≤ 7 by decide)
    have hr6 := hr.mono (show 6 ≤ 7 by decide)
    have hu3 : (A.deeper (envOfC "law" (defScope sLaw) s.heap.objs.size f (.ref c))).units + 3 < cLine := by have := hr.units; omega
    refine ⟨_, pss_cons (ps_set (i := 1) scL.nd rfl (Or.inr rfl) (pe_fn G.bag hr1 (by rfl) pass0 (pa_cons (pv 0) pa_nil)))
      (pss_cons (ps_for (passes_of rfl) rfl (pi_range1 (by rfl) T.B.range (pa_cons pe_int pa_nil)) (pg_name (i := 2) scL.nd rfl (Or.inl rfl))
        (pss_cons (ps_set (i := 17) scL.nd rfl (Or.inr rfl) (pe_op op_add pe_int (pe_fn G.take hr1 (by rfl) pass0 (pa_cons (pv 1) (pa_cons pe_int pa_nil)))))
        (pss_cons (ps_asg (pe_tup (pa_cons (pe_fn G.poly hr2 (by rfl) pass0 (pa_cons (pv 1) (pa_cons (pv 17) pa_nil))) (pa_cons (pe_fn G.poly hr2 (by rfl) pass0 (pa_cons (pv 1) (pa_cons (pv 17) pa_nil))) pa_nil))) (pg_tup rfl (pgs_cons (pg_name (i := 16) scL.nd rfl (Or.inr rfl)) (pgs_cons (pg_name (i := 3) scL.nd rfl (Or.inl rfl)) pgs_nil))))
        (pss_cons (ps_set (i := 4) scL.nd rfl (Or.inl rfl) (pe_lst (pa_cons (pe_fn G.plus hr3 (by rfl) (passT (takes_of rfl rfl rfl rfl)) (pa_cons (pv 16) (pa_cons (pv 3) pa_nil))) (pa_cons (pe_fn G.minus hr4 (by rfl) (passT (takes_of rfl rfl rfl rfl)) (pa_cons (pv 16) (pa_cons (pv 3) pa_nil)))
          (pa_cons (pe_fn G.times hr3 (by rfl) (passT (takes_of rfl rfl rfl rfl)) (pa_cons (pv 16) (pa_cons (pv 3) pa_nil))) (pa_cons (pe_fn G.neg hr1 (by rfl) pass0 (pa_cons (pv 16) pa_nil)) pa_nil))))))
        (pss_cons (ps_for (passes_of rfl) rfl (pi_range1 (by rfl) T.B.range (pa_cons pe_int pa_nil)) (pg_name (i := 5) scL.nd rfl (Or.inl rfl))
          (pss_cons (ps_set (i := 7) scL.nd rfl (Or.inr rfl) (PE.weak (pe_callTy (r := rTup K) call_tup (by rfl) T.B.tuple (by decide +kernel) (pa_cons (pe_lc (own := [("pot", 6)]) (g := gName 6) (tt := tYes) (te := tCall spTake [] L2.E0 (tCons (tVar 1) (tCons (tC (.int 6)) tNil))) rfl scL.nd (pi_range1 (by rfl) T.B.range (pa_cons (pv 17) pa_nil)) (blkOk_by (own := [("pot", 6)]) (N := NL) (sc := defScope sLaw) (by decide +kernel))
              (fun _ _ _ _ _ => pg_name (i := 6) scL.nd rfl (Or.inl rfl)) (fun _ _ _ _ _ => pts_nil) (fun _ _ _ _ _ => pe_fn G.take hr1 (by rfl) L2.pass0 (pa_cons (pv 1) (pa_cons pe_int pa_nil)))) pa_nil)) draws_w))
          (pss_cons (ps_par (i := 8) (j := 9) rfl scL.nd rfl rfl (by decide) rfl rfl (pa_cons (pe_fn G.at_ hr1 (by rfl) pass0 (pa_cons (pv 16) (pa_cons (pv 7) pa_nil))) (pa_cons (pe_fn G.at_ hr1 (by rfl) pass0 (pa_cons (pv 3) (pa_cons (pv 7) pa_nil))) pa_nil)) (by rfl))
          (pss_one (ps_if (PW.pt (pw_or (pt_cmpR (op_neD hr.units) (pe_lc (own := [("poly", 10)]) (g := gName 10) (tt := tYes) (te := tCall spEvl [] L2.E0 (tCons (tVar 10) (tCons (tVar 7) tNil))) rfl scL.nd (pi_list (pv 4)) (blkOk_by (own := [("poly", 10)]) (N := NL) (sc := defScope sLaw) (by decide +kernel))
                (fun _ _ _ _ _ => pg_name (i := 10) scL.nd rfl (Or.inl rfl)) (fun _ _ _ _ _ => pts_nil) (fun _ _ _ _ _ => pe_fn G.worth hr1 (by rfl) L2.pass0 (pa_cons (pv 10) (pa_cons (pv 7) pa_nil))))
                (pe_lst (pa_cons (pe_op op_add (pv 8) (pv 9)) (pa_cons (pe_op op_sub (pv 8) (pv 9)) (pa_cons (pe_op op_mul (pv 8) (pv 9)) (pa_cons (pe_un un_neg (pv 8)) pa_nil))))) (nomark _))
              (pw_or1 (pt_cmpR op_ne (pe_fn G.worth hr1 (by rfl) pass0 (pa_cons (pv 16) (pa_cons (pv 7) pa_nil))) (pv 8) (nomark _))))) (pss_one (ps_ret pe_bl)) pss_nil)))))
        (pss_cons (ps_for (passes_of rfl) rfl (pi_list (pv 4)) (pg_name (i := 10) scL.nd rfl (Or.inl rfl))
          (pss_one (ps_if (PW.pt (pw_or (pt_cmpR (op_neD hr.units) (pe_callTy call_list_of (by rfl) T.B.list (by decide +kernel) (pa_cons (pv 10) pa_nil)) (pe_callB cr_sortedT (by rfl) T.B.sorted (by decide +kernel) (pa_cons (pv 10) pa_nil)) (nomark _))
              (pw_or (pt_cmpR (op_neD hr.units) (pe_lc (own := [("powers", 18), ("factor", 19)]) (g := gTup K 2 (gCons (gName 18) (gCons (gName 19) gNil))) rfl scL.nd (pi_tup (pv 10)) (blkOk_by (own := [("powers", 18), ("factor", 19)]) (N := NL) (sc := defScope sLaw) (by decide +kernel))
                  (fun _ _ _ _ _ => pg_tup rfl (pgs_cons (pg_name (i := 18) scL.nd rfl (.inl rfl) (.inr rfl)) (pgs_cons (pg_name (i := 19) scL.nd rfl (.inl rfl) (.inr rfl)) pgs_nil)))
                  (fun _ _ _ _ _ => pts_one (PW.pt (pw_or (pt_cmpR op_eq (pv 19) pe_int (nomark _)) (pw_or1 (pt_cmpR op_ne (pe_callB (r := rLenS K) call_lenS (by rfl) T.B.len PySem.boot_len (pa_cons (pv 18) pa_nil)) (pv 17) (nomark _)))))) (fun _ _ _ _ _ => pe_int)) (pe_lst pa_nil) (nomark _))
              (pw_or1 (pt_cmpR op_lt (pe_callB call_len_dT (by rfl) T.B.len PySem.boot_len (pa_cons (pe_callTy (cr_dictT rfl hu3) (by rfl) T.B.dict (by decide +kernel) (pa_cons (pv 10) pa_nil)) pa_nil)) (pe_callB (r := rLenS K) call_lenS (by rfl) T.B.len PySem.boot_len (pa_cons (pv 10) pa_nil)) (nomark _)))))) (pss_one (ps_ret pe_bl)) pss_nil)))
        (pss_cons (ps_if (PW.pt (pw_or (pt_cmpR (op_neD hr.units) (pe_fn G.minus hr4 (by rfl) (passT (takes_of rfl rfl rfl rfl)) (pa_cons (pv 16) (pa_cons (pv 16) pa_nil))) (pe_tup pa_nil) (nomark _))
            (pw_or (pt_cmpR (op_neD hr.units) (pe_fn G.plus hr3 (by rfl) (passT (takes_of rfl rfl rfl rfl)) (pa_cons (pv 16) (pa_cons (pe_fn G.num hr3 (by rfl) (passT (takes_of rfl rfl rfl rfl)) (pa_cons pe_int (pa_cons (pv 17) pa_nil))) pa_nil))) (pv 16) (nomark _))
            (pw_or (pt_cmpR (op_neD hr.units) (pe_fn G.times hr3 (by rfl) (passT (takes_of rfl rfl rfl rfl)) (pa_cons (pv 16) (pa_cons (pe_fn G.num hr3 (by rfl) (passT (takes_of rfl rfl rfl rfl)) (pa_cons pe_int (pa_cons (pv 17) pa_nil))) pa_nil))) (pv 16) (nomark _))
            (pw_or1 (pt_cmpR (op_neD hr.units) (pe_fn G.neg hr1 (by rfl) pass0 (pa_cons (pe_fn G.neg hr1 (by rfl) pass0 (pa_cons (pv 16) pa_nil)) pa_nil)) (pv 16) (nomark _))))))) (pss_one (ps_ret pe_bl)) pss_nil)
        (pss_cons (ps_par (i := 11) (j := 12) rfl scL.nd rfl rfl (by decide) rfl rfl (pa_cons (PE.weak (pe_callTy (r := rTup K) call_tup (by rfl) T.B.tuple (by decide +kernel) (pa_cons (pe_lc (own := [("pot", 6)]) (g := gName 6) (tt := tYes) (te := tCall spTake [] L2.E0 (tCons (tVar 1) (tCons (tC (.int 3)) tNil))) rfl scL.nd (pi_range1 (by rfl) T.B.range (pa_cons (pv 17) pa_nil)) (blkOk_by (own := [("pot", 6)]) (N := NL) (sc := defScope sLaw) (by decide +kernel))
              (fun _ _ _ _ _ => pg_name (i := 6) scL.nd rfl (Or.inl rfl)) (fun _ _ _ _ _ => pts_nil) (fun _ _ _ _ _ => pe_fn G.take hr1 (by rfl) L2.pass0 (pa_cons (pv 1) (pa_cons pe_int pa_nil)))) pa_nil)) draws_w) (pa_cons (pe_op op_add pe_int (pe_fn G.take hr1 (by rfl) pass0 (pa_cons (pv 1) (pa_cons pe_int pa_nil)))) pa_nil)) (by rfl))
        (pss_cons (ps_set (i := 13) scL.nd rfl (Or.inl rfl) (pe_fn G.wei hr6 (by rfl) (passT (takes_of rfl rfl rfl rfl)) (pa_cons (pv 11) (pa_cons (pv 12) pa_nil))))
        (pss_cons (ps_if (PW.pt (pw_or (pt_cmpR (op_neD hr.units) (pe_fn G.side hr (by rfl) (passT (takes_of rfl rfl rfl rfl)) (pa_cons (pv 13) (pa_cons (pv 17) pa_nil))) (pe_tup (pa_cons (pv 11) (pa_cons (pv 12) pa_nil))) (nomark _))
            (pw_or (pt_cmpR (op_neD hr.units) (pe_fn G.times hr3 (by rfl) (passT (takes_of rfl rfl rfl rfl)) (pa_cons (pe_fn G.fall hr5 (by rfl) (passT (takes_of rfl rfl rfl rfl)) (pa_cons (pv 11) pa_nil)) (pa_cons (pe_fn G.num hr3 (by rfl) (passT (takes_of rfl rfl rfl rfl)) (pa_cons (pv 12) (pa_cons (pv 17) pa_nil))) pa_nil))) (pv 13) (nomark _))
            (pw_or1 (pt_cmpR op_notN (pe_fn G.side hr (by rfl) (passT (takes_of rfl rfl rfl rfl)) (pa_cons (pe_tupP pa_nil) (pa_cons (pv 17) pa_nil))) pe_non (nomark _)))))) (pss_one (ps_ret pe_bl)) pss_nil)
        (pss_cons (ps_set (i := 7) scL.nd rfl (Or.inr rfl) (PE.weak (pe_callTy (r := rTup K) call_tup (by rfl) T.B.tuple (by decide +kernel) (pa_cons (pe_lc (own := [("pot", 6)]) (g := gName 6) (tt := tYes) (te := tCall spTake [] L2.E0 (tCons (tVar 1) (tCons (tC (.int 5)) tNil))) rfl scL.nd (pi_range1 (by rfl) T.B.range (pa_cons (pv 17) pa_nil)) (blkOk_by (own := [("pot", 6)]) (N := NL) (sc := defScope sLaw) (by decide +kernel))
              (fun _ _ _ _ _ => pg_name (i := 6) scL.nd rfl (Or.inl rfl)) (fun _ _ _ _ _ => pts_nil) (fun _ _ _ _ _ => pe_fn G.take hr1 (by rfl) L2.pass0 (pa_cons (pv 1) (pa_cons pe_int pa_nil)))) pa_nil)) draws_w))
        (pss_cons (ps_if (PW.pt (pw_or (pt_cmpR op_ne (pe_fn G.worth hr1 (by rfl) pass0 (pa_cons (pv 13) (pa_cons (pv 7) pa_nil))) (pe_ix ix_list (pe_fn G.wts hr1 (by rfl) pass0 (pa_cons (pe_tup (pa_cons (pe_tup (pa_cons (pv 11) (pa_cons (pv 11) (pa_cons (pv 12) pa_nil)))) pa_nil)) (pa_cons (pv 7) pa_nil))) pe_int (fun _ _ => rfl)) (nomark _))
            (pw_or1 (pt_cmpR op_notN (pe_fn G.side hr (by rfl) (passT (takes_of rfl rfl rfl rfl)) (pa_cons (pe_fn G.neg hr1 (by rfl) pass0 (pa_cons (pv 13) pa_nil)) (pa_cons (pv 17) pa_nil))) pe_non (nomark _))))) (pss_one (ps_ret pe_bl)) pss_nil)
        (pss_cons (ps_if (PW.pt (pw_and (pt_cmpR op_notN (pe_fn G.side hr (by rfl) (passT (takes_of rfl rfl rfl rfl)) (pa_cons (pe_fn G.plus hr3 (by rfl) (passT (takes_of rfl rfl rfl rfl)) (pa_cons (pv 13) (pa_cons (pe_fn G.num hr3 (by rfl) (passT (takes_of rfl rfl rfl rfl)) (pa_cons pe_int (pa_cons (pv 17) pa_nil))) pa_nil))) (pa_cons (pv 17) pa_nil))) pe_non (nomark _))
            (pw_and1 (pt_cmpR op_gt (pe_callB (cr_sumT rfl) (by rfl) T.B.sum boot_sum (pa_cons (pv 11) pa_nil)) pe_int (nomark _))))) (pss_one (ps_ret pe_bl)) pss_nil)
        (pss_cons (ps_par (i := 6) (j := 14) rfl scL.nd rfl rfl (by decide) rfl rfl (pa_cons (pe_fn G.take hr1 (by rfl) pass0 (pa_cons (pv 1) (pa_cons (pv 17) pa_nil))) (pa_cons (pe_op op_sub (pe_fn G.take hr1 (by rfl) pass0 (pa_cons (pv 1) (pa_cons pe_int pa_nil))) pe_int) pa_nil)) (by rfl))
        (pss_cons (ps_set (i := 15) scL.nd rfl (Or.inl rfl) (pe_fn G.plus hr3 (by rfl) (passT (takes_of rfl rfl rfl rfl)) (pa_cons (pe_fn G.cnt hr3 (by rfl) (passT (takes_of rfl rfl rfl rfl)) (pa_cons (pv 6) (pa_cons (pv 17) pa_nil))) (pa_cons (pe_fn G.num hr3 (by rfl) (passT (takes_of rfl rfl rfl rfl)) (pa_cons (pv 14) (pa_cons (pv 17) pa_nil))) pa_nil))))
        (pss_cons (ps_if (PW.pt (pw_or (pt_cmpR op_ne (pe_fn G.shift hr5 (by rfl) (passT (takes_of rfl rfl rfl rfl)) (pa_cons (pv 15) (pa_cons (pv 6) (pa_cons (pv 17) pa_nil)))) (pv 14) (nomark _))
            (pw_or1 (pt_cmpR op_notN (pe_fn G.shift hr5 (by rfl) (passT (takes_of rfl rfl rfl rfl)) (pa_cons (pe_fn G.times hr3 (by rfl) (passT (takes_of rfl rfl rfl rfl)) (pa_cons (pv 15) (pa_cons (pv 15) pa_nil))) (pa_cons (pv 6) (pa_cons (pv 17) pa_nil)))) pe_non (nomark _))))) (pss_one (ps_ret pe_bl)) pss_nil)
        (pss_cons (ps_if (pt_not (pt_val (pe_lamcall (k := 3) (T := Tt) (TT := TNothing K CN) (a := "act") (t := fun E => tCall (spCnt CN) [] E (tCons (tVar 17) (tCons (tVar 17) tNil))) (by rfl) mg_ kg lkg hcg bg scNo rfl (.inl rfl) (nothing_gives (by rfl) T.gN (by decide) (fun _ => rfl)) TB rfl hmT hu hr5 (lamS_by (by show lamSB (defScope sLaw) _ = true; decide +kernel)) (by rfl) (by intros; rfl)
            (fun A outer s H E f c' hrL => pe_fn G.cnt hrL (by rfl) (passT (takes_of rfl rfl rfl rfl)) (pa_cons (pv 17) (pa_cons (pv 17) pa_nil)))))) (pss_one (ps_ret pe_bl)) pss_nil)
        (pss_one (ps_if (PW.pt (pw_and (pt_cmpR (op_neD hr.units) (pv 16) (pe_tup pa_nil) (nomark _))
            (pw_and1 (pt_not (pt_val (pe_lamcall (k := 3) (T := Tt) (TT := TNothing K CN) (a := "act") (t := fun E => tCall (spBin CN plusP) [] E (tCons (tVar 16) (tCons (tCall spNum [] E (tCons (tC (.int 1)) (tCons (tOp (rI0 fun i j => .int (i + j)) (tVar 17) (tC (.int 1))) tNil))) tNil))) (by rfl) mg_ kg lkg hcg bg scNo rfl (.inl rfl) (nothing_gives (by rfl) T.gN (by decide) (fun _ => rfl)) TB rfl hmT hu hr5 (lamS_by (by show lamSB (defScope sLaw) _ = true; decide +kernel)) (by rfl) (by intros; rfl)
            (fun A outer s H E f c' hrL => pe_fn G.plus hrL (by rfl) (passT (takes_of rfl rfl rfl rfl)) (pa_cons (pv 16) (pa_cons (pe_fn G.num hrL (by rfl) (passT (takes_of rfl rfl rfl rfl)) (pa_cons pe_int (pa_cons (pe_op op_add (pv 17) pe_int) pa_nil))) pa_nil)))))))) ) (pss_one (ps_ret pe_bl)) pss_nil)))))))))))))))))))
      (pss_one (ps_ret pe_bl))), ?_⟩
    refine ⟨_, rfl, a, ns, rfl, ha, hn, fun H1 b l s1 nb nl g1 => ⟨4, rfl, by decide, by decide, for_range (lo := 0) (n := 4) (fun i σ H' => (∃ v2 v3 v4 v5 v6 v7 v8 v9 v10 v11 v12 v13 v14 v15 v16 v17 v18 v19, σ = [some (.ref a), some (.ref b), v2, v3, v4, v5, v6, v7, v8, v9, v10, v11, v12, v13, v14, v15, v16, v17, v18, v19]) ∧ BagAt H' b l ∧ Tabs Tt H')
      ⟨⟨none, none, none, none, none, none, none, none, none, none, none, none, none, none, none, none, none, none, rfl⟩, g1, htb.ext s1⟩ ?_ (fun σ H' _ => k H')⟩⟩
    rintro i σ H0 hi ⟨⟨v2, v3, v4, v5, v6, v7, v8, v9, v10, v11, v12, v13, v14, v15, v16, v17, v18, v19, rfl⟩, g0, t0⟩
    -- pots, one, other
    refine ⟨_, rfl, b, l, 4, rfl, by decide, by decide, g0, fun H1 n0 hn0 g1 sb1 => ⟨_, _, rfl, rfl, ?_⟩⟩
    have en : V.int (1 + ((n0 : Nat) : Int)) = V.int ((1 + n0 : Nat) : Int) := by rw [Int.natCast_add]; rfl
    dsimp only
    rw [en]
    generalize hnn : 1 + n0 = n
    have hn1 : 1 ≤ n := by omega
    have hn4 : n ≤ 4 := by omega
    have t1 := Tabs.but sb1 g0 t0
    refine ⟨_, rfl, _, rfl, b, l, n, rfl, hn1, hn4, g1, fun H2 a1 p sb2 g2 pa op => ⟨_, rfl, _, rfl, b, l, n, rfl, hn1, hn4, g2, fun H3 a2 q sb3 g3 pb oq => ⟨by show 2 ≤ sizeLine; decide, fun tt ntt => ?_⟩⟩⟩
    have s4 : Same H3 (upd H3 tt (.tup [.ref a1, .ref a2])) := same_laid ntt
    have htt : upd H3 tt (.tup [.ref a1, .ref a2]) tt = some (.tup [.ref a1, .ref a2]) := upd_same
    have g4 := g3.same s4
    have t4 : Tabs Tt (upd H3 tt (.tup [.ref a1, .ref a2])) := (Tabs.but sb3 g2 (Tabs.but sb2 g1 t1)).ext s4
    have pa4 := (pa.but sb3 g2).same s4
    have pb4 := pb.same s4
    generalize upd H3 tt (.tup [.ref a1, .ref a2]) = H4 at s4 htt g4 t4 pa4 pb4
    refine ⟨tt, _, rfl, SqT.of htt, rfl, _, _, rfl, _, _, rfl, rfl, ?_⟩
    -- told
    have hp16 := op.size
    refine ⟨_, rfl, _, rfl, a1, a2, p, q, n, n, 2, 16, 16, rfl, pa4, pb4, op, oq, by decide, by omega, by omega, by decide, .inl ⟨rfl, fun H5 c1 s5 pc1 => ?_⟩⟩
    refine ⟨_, rfl, _, rfl, a1, a2, p, q, n, n, 2, 16, 16, rfl, pa4.same s5, pb4.same s5, op, oq, by decide, by omega, by omega, by decide, .inl ⟨rfl, fun H6 c2 s6 pc2 => ?_⟩⟩
    refine ⟨_, rfl, _, rfl, a1, a2, p, q, n, 2, 16, 16, rfl, (pa4.same s5).same s6, (pb4.same s5).same s6, op, oq, by decide, by decide, by decide, by omega, by decide, fun H7 c3 s7 pc3 => ?_⟩
    refine ⟨_, rfl, a1, p, rfl, ((pa4.same s5).same s6).same s7, by omega, fun H8 c4 s8 pc4 => ⟨by show 4 ≤ sizeLine; decide, fun td ntd => ?_⟩⟩
    have g8 := g4.same (same_tr s5 (same_tr s6 (same_tr s7 s8)))
    obtain ⟨ntb, ntl⟩ := g8.ne ntd
    have s9 : Same H8 (upd H8 td (.lst [.ref c1, .ref c2, .ref c3, .ref c4])) := same_laid ntd
    have M9 : Mid b l Tt p q a1 a2 td c1 c2 c3 c4 (upd H8 td (.lst [.ref c1, .ref c2, .ref c3, .ref c4])) :=
      ⟨g8.same s9, t4.ext (same_tr s5 (same_tr s6 (same_tr s7 (same_tr s8 s9)))), pa4.same (same_tr s5 (same_tr s6 (same_tr s7 (same_tr s8 s9)))), pb4.same (same_tr s5 (same_tr s6 (same_tr s7 (same_tr s8 s9)))), upd_same, pc1.same (same_tr s6 (same_tr s7 (same_tr s8 s9))), pc2.same (same_tr s7 (same_tr s8 s9)), pc3.same (same_tr s8 s9), pc4.same s9⟩
    generalize upd H8 td (.lst [.ref c1, .ref c2, .ref c3, .ref c4]) = H9 at s9 M9
    -- at four drawn counts
    refine ⟨4, rfl, by decide, by decide, for_range (lo := 0) (n := 4) (fun j σ H' => (∃ w5 w7 w8 w9, σ = [some (.ref a), some (.ref b), some (.int (0 + (i : Nat))), some (.ref a2), some (.ref td), w5, v6, w7, w8, w9, v10, v11, v12, v13, v14, v15, some (.ref a1), some (.int (n : Nat)), v18, v19]) ∧ Mid b l Tt p q a1 a2 td c1 c2 c3 c4 H') ⟨⟨v5, v7, v8, v9, rfl⟩, M9⟩ ?_ ?_⟩
    · rintro j σ Ha hj ⟨⟨w5, w7, w8, w9, rfl⟩, Ma⟩
      refine ⟨b, l, n, 6, rfl, rfl, rfl, by omega, by decide, by decide, Ma.bg, fun Hb tc cs sb gb htc hcl hcb => ?_⟩
      have Mb := Ma.but ntb sb gb
      have hcs : ∀ x ∈ cs, 0 ≤ x ∧ x ≤ 5 := fun x hx => by have := hcb x hx; omega
      have hcs' : ∀ x ∈ cs, 0 ≤ x ∧ x ≤ 100 := fun x hx => by have := hcb x hx; omega
      refine ⟨_, rfl, _, rfl, a1, tc, p, cs, n, 2, 16, rfl, Mb.one, op, by decide, htc, hcl, hcs', fun Hc sc => ?_⟩
      refine ⟨_, rfl, _, rfl, a2, tc, q, cs, n, 2, 16, rfl, Mb.oth.same sc, oq, by decide, sc _ _ htc, hcl, hcs', fun Hd sd => ?_⟩
      have sbd : Same Hb Hd := same_tr sc sd
      have Md := Mb.same sbd
      have htd := sbd _ _ htc
      refine ⟨_, _, rfl, ?_⟩
      refine ⟨_, rfl, td, rfl, ⟨_, SqL.of Md.lst⟩, fun D hD => lc_list (K := K) (a := td) (xs := [.ref c1, .ref c2, .ref c3, .ref c4]) (fun e H' => Same Hd H' ∧ H' D = some (.lst ((([plusP p q, minusP p q, timesP p q, negP p].map (evalP cs)).take e).map V.int))) ⟨same_laid hD, upd_same⟩ (fun _ H' _ ⟨sx, _⟩ => SqL.of (sx _ _ Md.lst)) ?_ ?_⟩
      · rintro e x H' hx ⟨sx, hDx⟩
        obtain ⟨cc, r, rfl, pr, okr, hri⟩ := Md.item op oq hx
        have hel : e < 4 := (List.getElem?_eq_some_iff.mp hx).1
        refine ⟨rfl, tYes_i (iteT ⟨_, rfl, _, rfl, cc, tc, r, cs, n, 4, 256, rfl, pr.same sx, okr, by decide, sx _ _ htd, hcl, hcs', fun He se => ⟨_, se _ _ hDx, small1000 ?_, fun b' o' e' => ?_, ?_⟩⟩)⟩
        · rw [List.length_map, List.length_take]
          omega
        · rw [upd_ne (ne_of_none e' hD)]
          exact se _ _ (sx _ _ e')
        · have e2 : ([plusP p q, minusP p q, timesP p q, negP p].map (evalP cs))[e]? = some (evalP cs r) := by rw [List.getElem?_map, hri]; rfl
          rw [upd_same, take_more' e2, List.map_append]
          rfl
      · rintro H' ⟨sx, hDx⟩
        have e3 : ([plusP p q, minusP p q, timesP p q, negP p].map (evalP cs)).take [V.ref c1, .ref c2, .ref c3, .ref c4].length = [evalP cs p + evalP cs q, evalP cs p - evalP cs q, evalP cs p * evalP cs q, -evalP cs p] := by
          rw [evals cs op oq]
          rfl
        rw [e3] at hDx
        have hbd := eval_bound op hn4 (Nat.le_refl _) hcs
        refine ⟨_, rfl, _, rfl, _, _, rfl, rfl, _, rfl, _, rfl, _, _, rfl, rfl, _, rfl, _, rfl, _, _, rfl, rfl, .inl hbd, _, rfl, _, rfl, by show 4 ≤ sizeLine; decide, fun D2 n2 => ?_⟩
        have s2 : Same H' (upd H' D2 (.lst [.int (evalP cs p + evalP cs q), .int (evalP cs p - evalP cs q), .int (evalP cs p * evalP cs q), .int (-evalP cs p)])) := same_laid n2
        refine ⟨.list ([evalP cs p + evalP cs q, evalP cs p - evalP cs q, evalP cs p * evalP cs q, -evalP cs p].map .int), .list ([evalP cs p + evalP cs q, evalP cs p - evalP cs q, evalP cs p * evalP cs q, -evalP cs p].map .int), .lst (SqL.of (s2 _ _ hDx)) (dpInts _), .lst (SqL.of upd_same) (dpInts [evalP cs p + evalP cs q, evalP cs p - evalP cs q, evalP cs p * evalP cs q, -evalP cs p]), shaped_listI _, shaped_listI _, ?_⟩
        rw [eqv_listI, decide_eq_true rfl]
        have s3 := same_tr sx s2
        generalize upd H' D2 (.lst [.int (evalP cs p + evalP cs q), .int (evalP cs p - evalP cs q), .int (evalP cs p * evalP cs q), .int (-evalP cs p)]) = Hf at s3
        refine ⟨_, rfl, iteF ⟨_, rfl, _, rfl, a1, tc, p, cs, n, 2, 16, rfl, Md.one.same s3, op, by decide, s3 _ _ htd, hcl, hcs', fun Hg sg => ⟨_, rfl, rfl, ?_⟩⟩⟩
        rw [ne_self_int]
        exact ⟨_, rfl, iteF ⟨⟨_, _, _, _, rfl⟩, Md.same (same_tr s3 sg)⟩⟩
    · rintro σ Ha ⟨⟨w5, w7, w8, w9, rfl⟩, Ma⟩
      -- each of told is ascending, without factor 0, over these pots, each powers once
      refine ⟨_, rfl, td, rfl, ⟨_, SqL.of Ma.lst⟩, for_list (K := K) (a := td) (xs := [.ref c1, .ref c2, .ref c3, .ref c4]) (fun j σ H' => (∃ w10, σ = [some (.ref a), some (.ref b), some (.int (0 + (i : Nat))), some (.ref a2), some (.ref td), w5, v6, w7, w8, w9, w10, v11, v12, v13, v14, v15, some (.ref a1), some (.int (n : Nat)), v18, v19]) ∧ Mid b l Tt p q a1 a2 td c1 c2 c3 c4 H') ⟨⟨v10, rfl⟩, Ma⟩ (fun _ _ H' _ ⟨_, Mx⟩ => SqL.of Mx.lst) ?_ ?_⟩
      · rintro j x σ Hb hx ⟨⟨w10, rfl⟩, Mb⟩
        obtain ⟨cc, r, rfl, pr, okr, _⟩ := Mb.item op oq hx
        obtain ⟨o, ts, hc, hod, hpp⟩ := pr
        have htl := Paired.length hpp
        have hsq : ∀ {H'}, Same Hb H' → SqT K H' cc (ts.map V.ref) := fun s => .inl (.inr ⟨o, s _ _ hc⟩)
        have hpp' : ∀ {H'}, Same Hb H' → Paired (PAt H') ts r := fun s => paired_imp (fun t x hx => hx.ext (.of s)) hpp
        refine ⟨_, rfl, cc, _, rfl, .inr (hsq fun _ _ e => e), fun l1 nl1 => ?_⟩
        have sa := same_laid (o := .lst (ts.map V.ref)) nl1
        obtain ⟨ts', e1, k5⟩ := sort_paired (hpp' sa)
        rw [okr.asc.sorted] at k5
        refine ⟨_, rfl, cc, ts.map V.ref, r.map encE, rfl, hsq sa, dpPairs (hpp' sa), W.AllAlike.of alikeE, W.Sortable.tuples fun b => ⟨_, _, rfl⟩, fun x hx => ?_, fun l2 nl2 => ?_⟩
        · obtain ⟨e, _, rfl⟩ := List.mem_map.mp hx
          rw [depthE]
          have := hr.units
          show (A.deeper _).units + 2 + 2 < cLine
          omega
        rw [e1]
        have sb := same_laid (o := .lst (ts'.map V.ref)) nl2
        have sab := same_tr sa sb
        refine ⟨.list (r.map encE), .list (r.map encE), dp_listP (SqL.of (sb _ _ upd_same)) (hpp' sab), dp_listP (SqL.of upd_same) (paired_imp (fun t x hx => hx.ext (.of sb)) k5), shaped_listP _, shaped_listP _, ?_⟩
        rw [eqv_listP, decide_eq_true rfl]
        generalize upd (upd Hb l1 (.lst (ts.map V.ref))) l2 (.lst (ts'.map V.ref)) = Hc at sab
        refine ⟨_, rfl, iteF ⟨_, rfl, cc, rfl, ⟨_, hsq sab⟩, fun D hD => lc_tup (K := K) (a := cc) (xs := ts.map V.ref) (fun e H' => Same Hc H' ∧ H' D = some (.lst [])) ⟨same_laid hD, upd_same⟩ (fun _ H' _ ⟨sx, _⟩ => hsq (same_tr sab sx)) ?_ ?_⟩⟩
        · rintro e x H' hx ⟨sx, hDx⟩
          rw [List.getElem?_map] at hx
          obtain ⟨t, ht, rfl⟩ := Option.map_eq_some_iff.mp hx
          obtain ⟨ee, he, qq, f1, f2⟩ := paired_at (hpp' (same_tr sab sx)) ht
          have hem : ee ∈ r := List.mem_of_getElem? he
          refine ⟨t, _, rfl, SqT.of f1, rfl, _, _, rfl, _, _, rfl, rfl, rfl, _, rfl, rfl, _, rfl, ?_⟩
          rw [decide_eq_false (show ¬ V.int ee.2 = V.int 0 from fun z => okr.nz ee hem (by injection z))]
          refine iteF ⟨_, rfl, qq, _, rfl, .inr (SqT.of f2), _, rfl, rfl, _, rfl, ?_⟩
          have e4 : (!decide (V.int ((ee.1.map V.int).length : Nat) = V.int (n : Nat))) = false := by
            rw [List.length_map, okr.len ee hem]
            simp
          rw [e4]
          exact iteF ⟨sx, hDx⟩
        · rintro H' ⟨sx, hDx⟩
          refine ⟨Nat.zero_le _, fun D2 n2 => ?_⟩
          have s2 := same_laid (o := .lst []) n2
          refine ⟨.list (([] : List Int).map .int), .list (([] : List Int).map .int), .lst (SqL.of (s2 _ _ hDx)) .nil, .lst (SqL.of upd_same) .nil, shaped_listI _, shaped_listI _, ?_⟩
          rw [eqv_listI, decide_eq_true rfl]
          have s3 := same_tr sab (same_tr sx s2)
          generalize upd H' D2 (.lst []) = He at s3
          refine ⟨_, rfl, iteF ⟨_, rfl, cc, o, ts, encD r, rfl, s3 _ _ hc, hod, pairT_of (hpp' s3), fun dd ndd => ?_⟩⟩
          rw [show mergeT ([] : List (List Key × V)) (encD r) = encD r by have := mergeT_enc r [] (by simpa using okr.asc.nodup); simpa [encD] using this]
          have s4 := same_laid (o := .dT (encD r)) ndd
          refine ⟨dd, _, rfl, upd_same, _, rfl, cc, _, rfl, .inr (hsq (same_tr s3 s4)), _, _, rfl, rfl, _, rfl, ?_⟩
          rw [decide_eq_false (show ¬ (((encD r).length : Nat) : Int) < ((ts.map V.ref).length : Nat) by rw [length_encD, List.length_map, htl]; omega)]
          exact iteF ⟨⟨_, rfl⟩, Mb.same (same_tr s3 s4)⟩
      · rintro σ Hb ⟨⟨w10, rfl⟩, Mb⟩
        -- one less one, one and nothing, one times one, one turned twice
        refine ⟨_, rfl, _, rfl, a1, a1, p, p, n, n, 2, 16, 16, rfl, Mb.one, Mb.one, op, op, by decide, by omega, by omega, by decide, .inl ⟨rfl, fun Hc e1 sc pe1 => ⟨Nat.zero_le _, fun t1 n1 => ?_⟩⟩⟩
        rw [law_self op] at pe1
        have s1 := same_laid (o := .tup []) n1
        refine ⟨dPol [], dPol [], (pe1.same s1).dp, dp_nil upd_same, shapedP _, shapedP _, ?_⟩
        rw [eqvP, decide_eq_true rfl]
        have s2 := same_tr sc s1
        generalize upd Hc t1 (.tup []) = Hd at s2
        have Md := Mb.same s2
        refine ⟨_, rfl, iteF ⟨_, rfl, _, rfl, 0, n, rfl, by omega, by decide, fun He z1 se pz1 => ⟨a1, z1, p, numP n 0, n, n, 2, 16, 0, rfl, Md.one.same se, pz1, op, Ok.num n 2 0, by decide, by omega, by omega, by decide, .inl ⟨rfl, fun Hf z2 sf pz2 => ⟨_, rfl, dPol p, dPol p, ?_, ((Md.one.same se).same sf).dp, shapedP _, shapedP _, ?_⟩⟩⟩⟩⟩
        · rw [law_zero op] at pz2
          exact pz2.dp
        rw [eqvP, decide_eq_true rfl]
        have Mf := (Md.same se).same sf
        refine ⟨_, rfl, iteF ⟨_, rfl, _, rfl, 1, n, rfl, by omega, by decide, fun He z1 se pz1 => ⟨a1, z1, p, numP n 1, n, 2, 16, 1, rfl, Mf.one.same se, pz1, op, Ok.num n 2 1, by decide, by decide, by decide, by omega, by decide, fun Hg z2 sg pz2 => ⟨_, rfl, dPol p, dPol p, ?_, ((Mf.one.same se).same sg).dp, shapedP _, shapedP _, ?_⟩⟩⟩⟩
        · rw [law_one op] at pz2
          exact pz2.dp
        rw [eqvP, decide_eq_true rfl]
        have Mg := (Mf.same se).same sg
        refine ⟨_, rfl, iteF ⟨_, rfl, a1, p, rfl, Mg.one, by omega, fun He z1 se pz1 => ⟨z1, negP p, rfl, pz1, by unfold negP; rw [List.length_map]; omega, fun Hh z2 sh pz2 => ⟨_, rfl, dPol p, dPol p, ?_, ((Mg.one.same se).same sh).dp, shapedP _, shapedP _, ?_⟩⟩⟩⟩
        · rw [neg_neg] at pz2
          exact pz2.dp
        rw [eqvP, decide_eq_true rfl]
        have Mh := (Mg.same se).same sh
        refine ⟨_, rfl, iteF ?_⟩
        -- a side: taken, rate
        refine ⟨b, l, n, 3, rfl, rfl, rfl, by omega, by decide, by decide, Mh.bg, fun Hi tk taken si gi htk hln hbd => ?_⟩
        refine ⟨_, rfl, b, l, 9, rfl, by decide, by decide, gi, fun Hj r0 hr0 gj sj => ⟨_, _, rfl, rfl, ?_⟩⟩
        refine ⟨_, _, rfl, ?_⟩
        dsimp only
        generalize hrt : (1 : Int) + ((r0 : Nat) : Int) = rate
        have hr1 : 1 ≤ rate ∧ rate ≤ 9 := by omega
        subst hln
        have tok : TkOk taken := ⟨hn4, fun x hx => by have := hbd x hx; omega⟩
        have oj := (Mh.one.but si Mh.bg).but sj gi
        have tj := Tabs.but sj gi (Tabs.but si Mh.bg Mh.tb)
        have htj := sj.at_ gi htk fun l z => by cases z
        refine ⟨_, rfl, _, rfl, tk, taken, rate, rfl, htj, tok, by omega, fun Hk wa sk pw => ?_⟩
        have F0 : Fin b l Tt p a1 taken tk (weightP taken rate) wa Hk := ⟨gj.same sk, tj.ext sk, oj.same sk, sk _ _ htj, pw⟩
        have okW : Ok taken.length (2 * taken.length) (rate.natAbs * 2 ^ taken.length) (weightP taken rate) := Ok.weight tok.en
        have h2n : 2 ^ taken.length ≤ 16 := Nat.pow_le_pow_right (by decide) hn4
        have hN : rate.natAbs * 2 ^ taken.length ≤ 9 * 16 := Nat.mul_le_mul (by omega) h2n
        have hWne : weightP taken rate ≠ [] := weight_ne tok.en (by omega)
        -- side_of(weight, pots) != (taken, rate) or .. or ..
        refine ⟨_, rfl, _, rfl, wa, weightP taken rate, taken.length, _, _, taken, rate, rfl, F0.wt, okW, tok, rfl, by omega, fun _ => ⟨Lead.weight tok.en, by omega⟩, F0.tb, fun Hl el tl => ⟨fun z => absurd z hWne, fun _ z => absurd z (by omega), fun _ _ z => absurd rfl z, fun _ _ _ t5 q5 Hm sm ht5 hq5 => ?_⟩⟩
        have F1 := (F0.ext el tl).same sm
        refine ⟨_, rfl, _, rfl, by show 2 ≤ sizeLine; decide, fun t6 n6 => ?_⟩
        have s6 := same_laid (o := .tup [.ref tk, .int rate]) n6
        refine ⟨encE (taken, rate), encE (taken, rate), dp_side (s6 _ _ ht5) (s6 _ _ hq5), dp_side upd_same (s6 _ _ F1.tk), shapedE _, shapedE _, ?_⟩
        rw [eqvE, decide_eq_true rfl]
        have F2 := F1.same s6
        generalize upd Hm t6 (.tup [.ref tk, .int rate]) = Hn at F2
        refine ⟨_, rfl, iteF ⟨_, rfl, tk, taken, rfl, F2.tk, tok, fun Ho fa so pf => ⟨_, rfl, _, rfl, rate, taken.length, rfl, by omega, by omega, fun Hp2 z3 sp pz3 => ⟨fa, z3, fallP taken, numP taken.length rate, taken.length, 2 * taken.length, 2 ^ taken.length, rate.natAbs, rfl, pf.same sp, pz3, Ok.fallP tok.en, Ok.num _ _ _, by rw [Nat.mul_comm]; omega, by omega, by omega, by omega, by omega, fun Hq z4 sq pz4 => ⟨_, rfl, dPol (weightP taken rate), dPol (weightP taken rate), ?_, (((F2.wt.same so).same sp).same sq).dp, shapedP _, shapedP _, ?_⟩⟩⟩⟩⟩
        · rw [law_comm tok.en] at pz4
          exact pz4.dp
        rw [eqvP, decide_eq_true rfl]
        have F3 := ((F2.same so).same sp).same sq
        refine ⟨_, rfl, iteF ⟨Nat.zero_le _, fun z5 o5 nz5 ho5 => ⟨_, rfl, z5, [], taken.length, 0, 0, taken, 1, rfl, ⟨o5, [], upd_same, ho5, .nil⟩, Ok.nil _ _ _, tok, rfl, by decide, fun z => absurd rfl z, (F3.same (same_laid nz5)).tb, fun Hr er tr => ⟨fun _ => ⟨rfl, ?_⟩, fun z => absurd rfl z, fun z => absurd rfl z, fun z => absurd rfl z⟩⟩⟩⟩
        rw [not_non_non]
        have F4 := (F3.same (same_laid (o := .frz o5 (.tup [])) nz5)).ext er tr
        refine ⟨_, rfl, iteF ?_⟩
        -- counts
        refine ⟨b, l, taken.length, 5, rfl, rfl, rfl, by omega, by decide, by decide, F4.bg, fun Hs tc cs ss gs htc hcl hcb => ?_⟩
        have F5 := F4.but ss gs
        have hcs' : ∀ x ∈ cs, 0 ≤ x ∧ x ≤ 100 := fun x hx => by have := hcb x hx; omega
        refine ⟨_, rfl, _, rfl, wa, tc, weightP taken rate, cs, taken.length, _, _, rfl, F5.wt, okW, by omega, htc, hcl, hcs', fun Ht st => ?_⟩
        refine ⟨_, rfl, _, rfl, _, rfl, by show 3 ≤ sizeLine; decide, fun t7 n7 => ⟨by show 1 ≤ sizeLine; decide, fun u7 nu7 => ?_⟩⟩
        have s7 := same_laid (o := .tup [.ref tk, .ref tk, .int rate]) n7
        have s8 := same_laid (o := .tup [.ref t7]) nu7
        have s78 := same_tr st (same_tr s7 s8)
        refine ⟨_, rfl, u7, t7, tk, tc, taken, cs, rate, rfl, upd_same, s8 _ _ upd_same, s78 _ _ F5.tk, s78 _ _ htc, hcl, tok, hcs', fun Hu lw su hlw => ⟨lw, _, 0, _, rfl, rfl, SqL.of hlw, atI_nat (j := 0) rfl, rfl, ?_⟩⟩
        have F6 := F5.same (same_tr s78 su)
        have ew : evalP cs (weightP taken rate) = wPre rate cs taken taken.length := by rw [eval_weight tok.en hcl, wPre_eq fun x hx => (hcb x hx).1]
        rw [ew, ne_self_int]
        refine ⟨_, rfl, iteF ⟨_, rfl, wa, weightP taken rate, rfl, F6.wt, by have := okW.size; omega, fun Hv z6 sv pz6 => ⟨_, rfl, z6, negP (weightP taken rate), taken.length, _, _, taken, -rate, rfl, pz6, okW.neg, tok, rfl, by omega, fun _ => ⟨(Lead.weight tok.en).neg, by omega⟩, F6.tb.ext sv, fun Hw ew2 tw => ⟨fun z => absurd z (neg_ne hWne), fun _ _ => ⟨rfl, ?_⟩, fun _ z => absurd (by omega) z, fun _ z => absurd (by omega) z⟩⟩⟩⟩
        rw [not_non_non]
        have F7 := (F6.same sv).ext ew2 tw
        refine ⟨_, rfl, iteF ?_⟩
        -- side_of(plus(weight, number(1, pots)), pots) is not None and sum(taken) > 0
        refine ⟨_, rfl, _, rfl, 1, taken.length, rfl, by omega, by decide, fun Hx z7 sx pz7 => ⟨wa, z7, weightP taken rate, numP taken.length 1, taken.length, taken.length, 2 * taken.length, rate.natAbs * 2 ^ taken.length, 1, rfl, F7.wt.same sx, pz7, okW, Ok.num taken.length (2 * taken.length) 1, by omega, by omega, by omega, by omega, .inl ⟨rfl, fun Hy z8 sy pz8 => ?_⟩⟩⟩
        have F8 := (F7.same sx).same sy
        have okV : Ok taken.length (2 * taken.length) (rate.natAbs * 2 ^ taken.length + 1) (plusP (weightP taken rate) (numP taken.length 1)) := okW.plus (Ok.num taken.length (2 * taken.length) 1)
        by_cases hs : 0 < taken.sum
        case' pos =>
          have hl : Lead (plusP (weightP taken rate) (numP taken.length 1)) taken rate := Lead.plusNum (Lead.weight tok.en) hs 1
          refine ⟨_, rfl, z8, _, taken.length, _, _, taken, rate, rfl, pz8, okV, tok, rfl, by omega, fun _ => ⟨hl, by omega⟩, F8.tb, fun Hz ez tz => ⟨fun z => absurd z (lead_ne hl okV.asc (by omega)), fun _ z => absurd z (by omega), fun _ _ _ => ⟨rfl, ?_⟩, fun _ _ z => absurd z (plus_one_ne okW)⟩⟩
          rw [not_non_non]
          have F9 := F8.ext ez tz
          refine ⟨_, rfl, iteF (iteF ?_)⟩
        case' neg =>
          have h0 : taken.sum = 0 := by
            have := (sum_bound (k := taken) (b := 2) fun x hx => by have := tok.en x hx; omega).1
            omega
          have hz : taken = zeros taken.length := zeros_of_sum (fun x hx => (tok.en x hx).1) h0
          have hl : Lead (plusP (weightP taken rate) (numP taken.length 1)) taken (rate + 1) := by
            have hw : Lead (weightP taken rate) (zeros taken.length) rate := fun φ hφ => by
              have h := Lead.weight (rate := rate) tok.en φ
              rw [← hz] at hφ ⊢
              exact h hφ
            have h := hw.plusNum0 1
            exact fun φ hφ => by
              have h2 := h φ
              rw [← hz] at h2
              exact h2 hφ
          refine ⟨_, rfl, z8, _, taken.length, _, _, taken, rate + 1, rfl, pz8, okV, tok, rfl, by omega, fun _ => ⟨hl, by omega⟩, F8.tb, fun Hz ez tz => ⟨fun z => absurd z (lead_ne hl okV.asc (by omega)), fun _ z => absurd z (by omega), fun _ _ _ => ⟨rfl, ?la⟩, fun _ _ _ t9 q9 Hy2 sy2 ht9 hq9 => ⟨rfl, ?lb⟩⟩⟩
          case' la =>
            rw [not_non_non]
            have F9 := F8.ext ez tz
            refine ⟨_, rfl, iteF (iteF ?_)⟩
          case' lb =>
            rw [show (!decide (V.ref t9 = V.non)) = true by simp]
            have F9 := (F8.ext ez tz).same sy2
            refine ⟨_, rfl, iteT ⟨_, rfl, tk, taken, rfl, SqT.of F9.tk, _, _, rfl, rfl, _, rfl, ?_⟩⟩
            rw [decide_eq_false hs]
            refine iteF ?_
        all_goals
          refine ⟨_, rfl, _, rfl, b, l, taken.length, rfl, hn1, by omega, F9.bg, fun J1 i0 hi0 gi0 sj1 => ⟨_, rfl, b, l, 9, rfl, by decide, by decide, gi0, fun J2 h9 hh9 gj2 sj2 => ⟨_, _, rfl, rfl, ?_⟩⟩⟩
          refine ⟨_, _, rfl, ?_⟩
          dsimp only
          generalize hsh : ((h9 : Nat) : Int) - 4 = sh
          have hsh4 : sh.natAbs ≤ 4 := by omega
          have FA := (F9.but sj1 gi0).but sj2 gj2
          refine ⟨_, rfl, _, rfl, i0, taken.length, rfl, by omega, fun _ J3 m1 s3 pm1 => ?_, fun z => absurd hi0 z⟩
          refine ⟨_, rfl, _, rfl, sh, taken.length, rfl, by omega, by omega, fun J4 m2 s4 pm2 => ⟨m1, m2, cntP taken.length i0, numP taken.length sh, taken.length, taken.length, 1, 1, sh.natAbs, rfl, pm1.same s4, pm2, Ok.cnt hi0, Ok.num taken.length 1 sh, by omega, by omega, by omega, by decide, .inl ⟨rfl, fun J5 mv s5 pmv => ?_⟩⟩⟩
          have FB := ((FA.same s3).same s4).same s5
          have okM := Ok.moved hi0 sh
          refine ⟨_, rfl, _, rfl, _, rfl, mv, movedP taken.length i0 sh, i0, taken.length, 1, 1 + sh.natAbs, rfl, pmv, hi0, hn4, okM, by omega, by decide, by decide, fun J6 s6 => ⟨_, rfl, ?_⟩⟩
          rw [law_moved hi0, shift_num]
          refine ⟨rfl, ?_⟩
          rw [ne_self_int]
          have hmm : (1 + sh.natAbs) * (1 + sh.natAbs) ≤ 5 * 5 := Nat.mul_le_mul (by omega) (by omega)
          refine ⟨_, rfl, iteF ⟨_, rfl, _, rfl, mv, mv, movedP taken.length i0 sh, movedP taken.length i0 sh, taken.length, 1, 1 + sh.natAbs, 1 + sh.natAbs, rfl, pmv.same s6, pmv.same s6, okM, okM, by omega, by omega, by omega, by omega, by decide, fun J7 mm s7 pmm => ⟨_, rfl, _, rfl, mm, _, i0, taken.length, _, _, rfl, pmm, hi0, hn4, okM.times okM, by omega, by decide, by decide, fun J8 s8 => ⟨rfl, ?_⟩⟩⟩⟩
          obtain ⟨k2, c2', hkc, hkz⟩ := law_twice hi0 sh
          rw [shift_non hkc hkz, not_non_non]
          have FC := ((FB.same s6).same s7).same s8
          refine ⟨_, rfl, iteF ⟨FC.tb, fun J9 e9 t9' => ⟨_, rfl, _, rfl, taken.length, taken.length, rfl, by omega, fun z => absurd z (Nat.lt_irrefl _), fun _ J10 s10 => ⟨true, eN, fun _ => ⟨_, rfl, iteF ?_⟩, fun z => Bool.noConfusion z⟩⟩⟩⟩
          have FD := (FC.ext e9 t9').same s10
          refine ⟨_, rfl, Nat.zero_le _, fun t11 n11 => ?_⟩
          have s11 := same_laid (o := .tup []) n11
          refine ⟨dPol p, dPol [], (FD.one.same s11).dp, dp_nil upd_same, shapedP _, shapedP _, ?_⟩
          rw [eqvP]
          have FE := FD.same s11
          by_cases hp0 : p = []
          · rw [show (!decide (p = [])) = false by simp [hp0]]
            exact ⟨_, rfl, iteF (iteF ⟨⟨_, _, _, _, _, _, _, _, _, _, _, _, _, _, _, _, _, _, rfl⟩, FE.bg, FE.tb⟩)⟩
          · rw [show (!decide (p = [])) = true by simp [hp0]]
            refine ⟨_, rfl, iteT ⟨FE.tb, fun J12 e12 t12 => ⟨_, rfl, _, rfl, _, _, rfl, rfl, 1, taken.length + 1, rfl, by omega, by decide, fun J13 z13 s13 pz13 => ⟨a1, z13, p, numP (taken.length + 1) 1, taken.length, taken.length + 1, 2, 16, 1, rfl, (FE.one.ext e12).same s13, pz13, op, Ok.num (taken.length + 1) 2 1, by decide, by omega, by omega, by decide, .inr ⟨by omega, hp0, by rw [numP_ne (by decide)]; exact List.cons_ne_nil _ _, fun J14 s14 => ⟨true, eN, fun _ => ⟨_, rfl, iteF ?_⟩, fun z => Bool.noConfusion z⟩⟩⟩⟩⟩⟩
            have FG := ((FE.ext e12 t12).same s13).same s14
            exact ⟨⟨_, _, _, _, _, _, _, _, _, _, _, _, _, _, _, _, _, _, rfl⟩, FG.bg, FG.tb⟩
end
end K64
namespace K64
open PySem PySem.Spec PyProof.Rows L2 LamX
theorem hd_mk {K : PySem.W.Frag} {c P : Addr} {dd : Option Addr} {vs : Array Value} {sl : Array (Option Value)} (l : K.lookup c = some ⟨.type "code", dd, .fields vs, sl⟩) (e : PySem.W.codeHdIn [(c, ⟨.type "code", none, .fields vs, #[]⟩)] c P = true) : PySem.W.codeHdIn K c P = true := by
  unfold PySem.W.codeHdIn at e ⊢
  rw [l]
  have q : List.lookup c [(c, (⟨.type "code", none, .fields vs, #[]⟩ : Obj))] = some ⟨.type "code", none, .fields vs, #[]⟩ := by simp [List.lookup]
  rw [q] at e
  exact e
theorem exc_own {K : PySem.W.Frag} {S : Addr} (b : PySem.W.subIn K (.ref S) (.type "BaseException") = some true) (c : PySem.W.isClsIn K S = true) (t : PySem.W.typeIn K (.ref S) = some (.type "type")) (s : PySem.W.subIn K (.ref S) (.ref S) = some true) : PySem.W.exmOne K (.ref S) (.ref S) = some true := by
  have x1 : (PySem.W.subIn K (.ref S) (.type "BaseException") == some true) = true := by rw [b] <;> rfl
  have x2 : ((PySem.W.clsIn K S).isSome && PySem.W.typeIn K (.ref S) == some (.type "type")) = true := by
    have c' : (PySem.W.clsIn K S).isSome = true := c
    rw [c', t] <;> rfl
  show (if _ then (if _ then PySem.W.subIn K (.ref S) (.ref S) else none) else none) = some true
  rw [if_pos x1, if_pos x2]
  exact s

theorem all_mk {l : PySem.W.OpenLaw} {w : World} {K : PySem.W.Frag} {h : Heap} {mg : Str → Option Value} {q : Program} {fa : Addr} (X : K.In h) (G : h.Ns mainGlobals mg) (hfa : mg "law" = some (.ref fa))
    (own : ∀ (nm : Str) (ga : Addr), ((recsOf q).any fun e => e.name == nm) = true → mg nm = some (.ref ga) → OwnTab K ga h) (rS : ((recsOf q).any fun e => e.name == ("side_of" : Str)) = true) (rL : ((recsOf q).any fun e => e.name == ("law" : Str)) = true)
    {f1 f2 f3 f4 f5 f6 f7 f8 f9 f10 f11 f12 f13 f14 f15 f16 f17 f18 f19 f20 f21 f22 f23 CN CT PS PL : Addr} {od1 an1 od2 an2 od3 an3 od4 an4 od5 an5 od6 an6 od7 an7 od8 an8 od9 an9 od10 an10 od11 an11 od12 an12 od13 an13 od14 an14 od15 an15 od16 an16 od17 an17 od18 an18 od19 an19 od20 an20 od21 an21 od22 an22 od23 an23 : Option Addr} {sl1 sl2 sl3 sl4 sl5 sl6 sl7 sl8 sl9 sl10 sl11 sl12 sl13 sl14 sl15 sl16 sl17 sl18 sl19 sl20 sl21 sl22 sl23 : Array (Option Value)}
    {oc1 kV1 dc1 pm1 ct1 cd1 oc2 kV2 dc2 pm2 ct2 cd2 oc3 kV3 dc3 pm3 ct3 cd3 oc4 kV4 dc4 pm4 ct4 cd4 oc5 kV5 dc5 pm5 ct5 cd5 oc6 kV6 dc6 pm6 ct6 cd6 oc7 kV7 dc7 pm7 ct7 cd7 oc8 kV8 dc8 pm8 ct8 cd8 oc9 kV9 dc9 pm9 ct9 cd9 oc10 kV10 dc10 pm10 ct10 cd10 oc11 kV11 dc11 pm11 ct11 cd11 oc12 kV12 dc12 pm12 ct12 cd12 oc13 kV13 dc13 pm13 ct13 cd13 oc14 kV14 dc14 pm14 ct14 cd14 oc15 kV15 dc15 pm15 ct15 cd15 oc16 kV16 dc16 pm16 ct16 cd16 oc17 kV17 dc17 pm17 ct17 cd17 oc18 kV18 dc18 pm18 ct18 cd18 oc19 kV19 dc19 pm19 ct19 cd19 oc20 kV20 dc20 pm20 ct20 cd20 oc21 kV21 dc21 pm21 ct21 oc22 kV22 dc22 pm22 ct22 cd22 oc23 kV23 dc23 pm23 ct23 : Value} {c21 c23 : Addr} {tt tx : Tok}
    (a1 : PySem.W.nsIn K mainGlobals "is_integer" = some (some (.ref f1))) (l1 : K.lookup f1 = some ⟨oc1, od1, .func (PySem.W.fnOf "is_integer" "is_integer" (defArgs sIsInt) (defBody sIsInt) (defScope sIsInt) .none kV1 dc1 pm1 an1 cd1 ct1), sl1⟩) (c_1 : PySem.W.codeIn K cd1 "is_integer" = true) (k1 : PySem.W.keepIn K (.ref f1) = true)
    (a2 : PySem.W.nsIn K mainGlobals "is_count" = some (some (.ref f2))) (l2 : K.lookup f2 = some ⟨oc2, od2, .func (PySem.W.fnOf "is_count" "is_count" (defArgs sIsCount) (defBody sIsCount) (defScope sIsCount) .none kV2 dc2 pm2 an2 cd2 ct2), sl2⟩) (c_2 : PySem.W.codeIn K cd2 "is_count" = true) (k2 : PySem.W.keepIn K (.ref f2) = true)
    (a3 : PySem.W.nsIn K mainGlobals "is_small" = some (some (.ref f3))) (l3 : K.lookup f3 = some ⟨oc3, od3, .func (PySem.W.fnOf "is_small" "is_small" (defArgs sIsSmall) (defBody sIsSmall) (defScope sIsSmall) .none kV3 dc3 pm3 an3 cd3 ct3), sl3⟩) (c_3 : PySem.W.codeIn K cd3 "is_small" = true) (k3 : PySem.W.keepIn K (.ref f3) = true)
    (a4 : PySem.W.nsIn K mainGlobals "tidied" = some (some (.ref f4))) (l4 : K.lookup f4 = some ⟨oc4, od4, .func (PySem.W.fnOf "tidied" "tidied" (defArgs sTidied) (defBody sTidied) (defScope sTidied) .none kV4 dc4 pm4 an4 cd4 ct4), sl4⟩) (c_4 : PySem.W.codeIn K cd4 "tidied" = true) (k4 : PySem.W.keepIn K (.ref f4) = true)
    (a5 : PySem.W.nsIn K mainGlobals "number" = some (some (.ref f5))) (l5 : K.lookup f5 = some ⟨oc5, od5, .func (PySem.W.fnOf "number" "number" (defArgs sNumber) (defBody sNumber) (defScope sNumber) .none kV5 dc5 pm5 an5 cd5 ct5), sl5⟩) (c_5 : PySem.W.codeIn K cd5 "number" = true) (k5 : PySem.W.keepIn K (.ref f5) = true)
    (a6 : PySem.W.nsIn K mainGlobals "count_of" = some (some (.ref f6))) (l6 : K.lookup f6 = some ⟨oc6, od6, .func (PySem.W.fnOf "count_of" "count_of" (defArgs sCountOf) (defBody sCountOf) (defScope sCountOf) .none kV6 dc6 pm6 an6 cd6 ct6), sl6⟩) (c_6 : PySem.W.codeIn K cd6 "count_of" = true) (k6 : PySem.W.keepIn K (.ref f6) = true)
    (a7 : PySem.W.nsIn K mainGlobals "pots_of" = some (some (.ref f7))) (l7 : K.lookup f7 = some ⟨oc7, od7, .func (PySem.W.fnOf "pots_of" "pots_of" (defArgs sPotsOf) (defBody sPotsOf) (defScope sPotsOf) .none kV7 dc7 pm7 an7 cd7 ct7), sl7⟩) (c_7 : PySem.W.codeIn K cd7 "pots_of" = true) (k7 : PySem.W.keepIn K (.ref f7) = true)
    (a8 : PySem.W.nsIn K mainGlobals "plus" = some (some (.ref f8))) (l8 : K.lookup f8 = some ⟨oc8, od8, .func (PySem.W.fnOf "plus" "plus" (defArgs sPlus) (defBody sPlus) (defScope sPlus) .none kV8 dc8 pm8 an8 cd8 ct8), sl8⟩) (c_8 : PySem.W.codeIn K cd8 "plus" = true) (k8 : PySem.W.keepIn K (.ref f8) = true)
    (a9 : PySem.W.nsIn K mainGlobals "negative" = some (some (.ref f9))) (l9 : K.lookup f9 = some ⟨oc9, od9, .func (PySem.W.fnOf "negative" "negative" (defArgs sNegative) (defBody sNegative) (defScope sNegative) .none kV9 dc9 pm9 an9 cd9 ct9), sl9⟩) (c_9 : PySem.W.codeIn K cd9 "negative" = true) (k9 : PySem.W.keepIn K (.ref f9) = true)
    (a10 : PySem.W.nsIn K mainGlobals "minus" = some (some (.ref f10))) (l10 : K.lookup f10 = some ⟨oc10, od10, .func (PySem.W.fnOf "minus" "minus" (defArgs sMinus) (defBody sMinus) (defScope sMinus) .none kV10 dc10 pm10 an10 cd10 ct10), sl10⟩) (c_10 : PySem.W.codeIn K cd10 "minus" = true) (k10 : PySem.W.keepIn K (.ref f10) = true)
    (a11 : PySem.W.nsIn K mainGlobals "times" = some (some (.ref f11))) (l11 : K.lookup f11 = some ⟨oc11, od11, .func (PySem.W.fnOf "times" "times" (defArgs sTimes) (defBody sTimes) (defScope sTimes) .none kV11 dc11 pm11 an11 cd11 ct11), sl11⟩) (c_11 : PySem.W.codeIn K cd11 "times" = true) (k11 : PySem.W.keepIn K (.ref f11) = true)
    (a12 : PySem.W.nsIn K mainGlobals "falling" = some (some (.ref f12))) (l12 : K.lookup f12 = some ⟨oc12, od12, .func (PySem.W.fnOf "falling" "falling" (defArgs sFalling) (defBody sFalling) (defScope sFalling) .none kV12 dc12 pm12 an12 cd12 ct12), sl12⟩) (c_12 : PySem.W.codeIn K cd12 "falling" = true) (k12 : PySem.W.keepIn K (.ref f12) = true)
    (a13 : PySem.W.nsIn K mainGlobals "weight_of_side" = some (some (.ref f13))) (l13 : K.lookup f13 = some ⟨oc13, od13, .func (PySem.W.fnOf "weight_of_side" "weight_of_side" (defArgs sWeight) (defBody sWeight) (defScope sWeight) .none kV13 dc13 pm13 an13 cd13 ct13), sl13⟩) (c_13 : PySem.W.codeIn K cd13 "weight_of_side" = true) (k13 : PySem.W.keepIn K (.ref f13) = true)
    (a14 : PySem.W.nsIn K mainGlobals "shift_of" = some (some (.ref f14))) (l14 : K.lookup f14 = some ⟨oc14, od14, .func (PySem.W.fnOf "shift_of" "shift_of" (defArgs sShiftOf) (defBody sShiftOf) (defScope sShiftOf) .none kV14 dc14 pm14 an14 cd14 ct14), sl14⟩) (c_14 : PySem.W.codeIn K cd14 "shift_of" = true) (k14 : PySem.W.keepIn K (.ref f14) = true)
    (a15 : PySem.W.nsIn K mainGlobals "worth_at" = some (some (.ref f15))) (l15 : K.lookup f15 = some ⟨oc15, od15, .func (PySem.W.fnOf "worth_at" "worth_at" (defArgs sWorth) (defBody sWorth) (defScope sWorth) .none kV15 dc15 pm15 an15 cd15 ct15), sl15⟩) (c_15 : PySem.W.codeIn K cd15 "worth_at" = true) (k15 : PySem.W.keepIn K (.ref f15) = true)
    (a16 : PySem.W.nsIn K mainGlobals "_law_bag" = some (some (.ref f16))) (l16 : K.lookup f16 = some ⟨oc16, od16, .func (PySem.W.fnOf "_law_bag" "_law_bag" (defArgs sBag) (defBody sBag) (defScope sBag) .none kV16 dc16 pm16 an16 cd16 ct16), sl16⟩) (c_16 : PySem.W.codeIn K cd16 "_law_bag" = true) (k16 : PySem.W.keepIn K (.ref f16) = true)
    (a17 : PySem.W.nsIn K mainGlobals "_law_take" = some (some (.ref f17))) (l17 : K.lookup f17 = some ⟨oc17, od17, .func (PySem.W.fnOf "_law_take" "_law_take" (defArgs sTake) (defBody sTake) (defScope sTake) .none kV17 dc17 pm17 an17 cd17 ct17), sl17⟩) (c_17 : PySem.W.codeIn K cd17 "_law_take" = true) (k17 : PySem.W.keepIn K (.ref f17) = true)
    (a18 : PySem.W.nsIn K mainGlobals "_law_weights" = some (some (.ref f18))) (l18 : K.lookup f18 = some ⟨oc18, od18, .func (PySem.W.fnOf "_law_weights" "_law_weights" (defArgs sWeights) (defBody sWeights) (defScope sWeights) .none kV18 dc18 pm18 an18 cd18 ct18), sl18⟩) (c_18 : PySem.W.codeIn K cd18 "_law_weights" = true) (k18 : PySem.W.keepIn K (.ref f18) = true)
    (a19 : PySem.W.nsIn K mainGlobals "_law_poly" = some (some (.ref f19))) (l19 : K.lookup f19 = some ⟨oc19, od19, .func (PySem.W.fnOf "_law_poly" "_law_poly" (defArgs sPoly) (defBody sPoly) (defScope sPoly) .none kV19 dc19 pm19 an19 cd19 ct19), sl19⟩) (c_19 : PySem.W.codeIn K cd19 "_law_poly" = true) (k19 : PySem.W.keepIn K (.ref f19) = true)
    (a20 : PySem.W.nsIn K mainGlobals "_law_at" = some (some (.ref f20))) (l20 : K.lookup f20 = some ⟨oc20, od20, .func (PySem.W.fnOf "_law_at" "_law_at" (defArgs sAt) (defBody sAt) (defScope sAt) .none kV20 dc20 pm20 an20 cd20 ct20), sl20⟩) (c_20 : PySem.W.codeIn K cd20 "_law_at" = true) (k20 : PySem.W.keepIn K (.ref f20) = true)
    (a21 : PySem.W.nsIn K mainGlobals "side_of" = some (some (.ref f21))) (l21 : K.lookup f21 = some ⟨oc21, od21, .func (PySem.W.fnOf "side_of" "side_of" (defArgs sSideOf) (defBody sSideOf) (defScope sSideOf) .none kV21 dc21 pm21 an21 (.ref c21) ct21), sl21⟩) (c_21 : PySem.W.codeIn K (.ref c21) "side_of" = true) (k21 : PySem.W.keepIn K (.ref f21) = true)
    (a22 : PySem.W.nsIn K mainGlobals "_law_is_nothing" = some (some (.ref f22))) (l22 : K.lookup f22 = some ⟨oc22, od22, .func (PySem.W.fnOf "_law_is_nothing" "_law_is_nothing" (defArgs sNothing) (defBody sNothing) (defScope sNothing) .none kV22 dc22 pm22 an22 cd22 ct22), sl22⟩) (c_22 : PySem.W.codeIn K cd22 "_law_is_nothing" = true) (k22 : PySem.W.keepIn K (.ref f22) = true)
    (a23 : PySem.W.nsIn K mainGlobals "law" = some (some (.ref f23))) (l23 : K.lookup f23 = some ⟨oc23, od23, .func (PySem.W.fnOf "law" "law" (defArgs sLaw) (defBody sLaw) (defScope sLaw) .none kV23 dc23 pm23 an23 (.ref c23) ct23), sl23⟩) (c_23 : PySem.W.codeIn K (.ref c23) "law" = true) (k23 : PySem.W.keepIn K (.ref f23) = true)
    (aN : PySem.W.nsIn K mainGlobals "Nothing" = some (some (.ref CN))) (xN : PySem.W.excIn K CN [.type "ValueError", .type "Exception", .type "BaseException", .type "object"] "ValueError.__new__" = true) (kN : PySem.W.keepIn K (.ref CN) = true)
    (bN : PySem.W.subIn K (.ref CN) (.type "BaseException") = some true) (tN : PySem.W.typeIn K (.ref CN) = some (.type "type")) (iN : PySem.W.isClsIn K CN = true) (sN : PySem.W.subIn K (.ref CN) (.ref CN) = some true)
    (aT : PySem.W.nsIn K mainGlobals "TooLarge" = some (some (.ref CT))) (aM : PySem.W.nsIn K mainGlobals "MOST_TERMS" = some (some (.int 400 tt))) (aX : PySem.W.nsIn K mainGlobals "MOST_TAKEN" = some (some (.int 8 tx)))
    (z1 : PySem.W.nsIn K mainGlobals "isinstance" = some none)
    (z2 : PySem.W.nsIn K mainGlobals "int" = some none)
    (z3 : PySem.W.nsIn K mainGlobals "bool" = some none)
    (z4 : PySem.W.nsIn K mainGlobals "range" = some none)
    (z5 : PySem.W.nsIn K mainGlobals "all" = some none)
    (z6 : PySem.W.nsIn K mainGlobals "tuple" = some none)
    (z7 : PySem.W.nsIn K mainGlobals "sorted" = some none)
    (z8 : PySem.W.nsIn K mainGlobals "len" = some none)
    (z9 : PySem.W.nsIn K mainGlobals "dict" = some none)
    (z10 : PySem.W.nsIn K mainGlobals "zip" = some none)
    (z11 : PySem.W.nsIn K mainGlobals "enumerate" = some none)
    (z12 : PySem.W.nsIn K mainGlobals "max" = some none)
    (z13 : PySem.W.nsIn K mainGlobals "sum" = some none)
    (z14 : PySem.W.nsIn K mainGlobals "abs" = some none)
    (z15 : PySem.W.nsIn K mainGlobals "list" = some none)
    {ddS ddL : Option Addr} {vsS vsL : Array Value} {slS slL : Array (Option Value)} (oS : K.lookup c21 = some ⟨.type "code", ddS, .fields vsS, slS⟩) (oL : K.lookup c23 = some ⟨.type "code", ddL, .fields vsL, slL⟩) (iS : vsS[11]? = some (.ref PS)) (iL : vsL[11]? = some (.ref PL))
    (rq1 : PySem.W.codeHdIn [(c21, ⟨.type "code", none, .fields vsS, #[]⟩)] c21 PS = true) (rq2 : PySem.W.codeHdIn [(c23, ⟨.type "code", none, .fields vsL, #[]⟩)] c23 PL = true) (nS : K.lookup PS = none) (nL : K.lookup PL = none) (ne : PL ≠ PS) :
    LawAtS l w K (L2.CX l.prog w) 8 63 "script" mg fa h := by
  have e := hfa.symm.trans (PySem.W.mg_of X G a23)
  cases e
  have B : Blt mg := ⟨PySem.W.mg_none_of X G z1, PySem.W.mg_none_of X G z2, PySem.W.mg_none_of X G z3, PySem.W.mg_none_of X G z4, PySem.W.mg_none_of X G z5, PySem.W.mg_none_of X G z6, PySem.W.mg_none_of X G z7, PySem.W.mg_none_of X G z8, PySem.W.mg_none_of X G z9, PySem.W.mg_none_of X G z10, PySem.W.mg_none_of X G z11, PySem.W.mg_none_of X G z12, PySem.W.mg_none_of X G z13, PySem.W.mg_none_of X G z14, PySem.W.mg_none_of X G z15⟩
  have T : Txt K mg CN := ⟨B, PySem.W.mg_of X G aN, xN, kN, bN, tN, ⟨_, PySem.W.mg_of X G aM⟩, ⟨_, PySem.W.mg_of X G aX⟩, ⟨_, PySem.W.mg_of X G aT⟩⟩
  have eN : PySem.W.exmOne K (.ref CN) (.ref CN) = some true := exc_own bN iN tN sN
  have m1 := PySem.W.mg_of X G a1
  have F1 := fun_mk (st := sIsInt) l1 c_1 k1
  have b1 := F1.binds (ps := ["thing"]) fun _ _ _ _ _ _ us hl => match us, hl with | [_], _ => rfl
  have m2 := PySem.W.mg_of X G a2
  have F2 := fun_mk (st := sIsCount) l2 c_2 k2
  have b2 := F2.binds (ps := ["thing"]) fun _ _ _ _ _ _ us hl => match us, hl with | [_], _ => rfl
  have m3 := PySem.W.mg_of X G a3
  have F3 := fun_mk (st := sIsSmall) l3 c_3 k3
  have b3 := F3.binds (ps := ["integer"]) fun _ _ _ _ _ _ us hl => match us, hl with | [_], _ => rfl
  have m4 := PySem.W.mg_of X G a4
  have F4 := fun_mk (st := sTidied) l4 c_4 k4
  have b4 := F4.binds (ps := ["terms", "pots"]) fun _ _ _ _ _ _ us hl => match us, hl with | [_, _], _ => rfl
  have m5 := PySem.W.mg_of X G a5
  have F5 := fun_mk (st := sNumber) l5 c_5 k5
  have b5 := F5.binds (ps := ["told", "pots"]) fun _ _ _ _ _ _ us hl => match us, hl with | [_, _], _ => rfl
  have m6 := PySem.W.mg_of X G a6
  have F6 := fun_mk (st := sCountOf) l6 c_6 k6
  have b6 := F6.binds (ps := ["pot", "pots"]) fun _ _ _ _ _ _ us hl => match us, hl with | [_, _], _ => rfl
  have m7 := PySem.W.mg_of X G a7
  have F7 := fun_mk (st := sPotsOf) l7 c_7 k7
  have b7 := F7.binds (ps := ["one", "other"]) fun _ _ _ _ _ _ us hl => match us, hl with | [_, _], _ => rfl
  have m8 := PySem.W.mg_of X G a8
  have F8 := fun_mk (st := sPlus) l8 c_8 k8
  have b8 := F8.binds (ps := ["one", "other"]) fun _ _ _ _ _ _ us hl => match us, hl with | [_, _], _ => rfl
  have m9 := PySem.W.mg_of X G a9
  have F9 := fun_mk (st := sNegative) l9 c_9 k9
  have b9 := F9.binds (ps := ["one"]) fun _ _ _ _ _ _ us hl => match us, hl with | [_], _ => rfl
  have m10 := PySem.W.mg_of X G a10
  have F10 := fun_mk (st := sMinus) l10 c_10 k10
  have b10 := F10.binds (ps := ["one", "other"]) fun _ _ _ _ _ _ us hl => match us, hl with | [_, _], _ => rfl
  have m11 := PySem.W.mg_of X G a11
  have F11 := fun_mk (st := sTimes) l11 c_11 k11
  have b11 := F11.binds (ps := ["one", "other"]) fun _ _ _ _ _ _ us hl => match us, hl with | [_, _], _ => rfl
  have m12 := PySem.W.mg_of X G a12
  have F12 := fun_mk (st := sFalling) l12 c_12 k12
  have b12 := F12.binds (ps := ["taken"]) fun _ _ _ _ _ _ us hl => match us, hl with | [_], _ => rfl
  have m13 := PySem.W.mg_of X G a13
  have F13 := fun_mk (st := sWeight) l13 c_13 k13
  have b13 := F13.binds (ps := ["taken", "rate"]) fun _ _ _ _ _ _ us hl => match us, hl with | [_, _], _ => rfl
  have m14 := PySem.W.mg_of X G a14
  have F14 := fun_mk (st := sShiftOf) l14 c_14 k14
  have b14 := F14.binds (ps := ["told", "pot", "pots"]) fun _ _ _ _ _ _ us hl => match us, hl with | [_, _, _], _ => rfl
  have m15 := PySem.W.mg_of X G a15
  have F15 := fun_mk (st := sWorth) l15 c_15 k15
  have b15 := F15.binds (ps := ["told", "counts"]) fun _ _ _ _ _ _ us hl => match us, hl with | [_, _], _ => rfl
  have m16 := PySem.W.mg_of X G a16
  have F16 := fun_mk (st := sBag) l16 c_16 k16
  have b16 := F16.binds (ps := ["script"]) fun _ _ _ _ _ _ us hl => match us, hl with | [_], _ => rfl
  have m17 := PySem.W.mg_of X G a17
  have F17 := fun_mk (st := sTake) l17 c_17 k17
  have b17 := F17.binds (ps := ["bag", "many"]) fun _ _ _ _ _ _ us hl => match us, hl with | [_, _], _ => rfl
  have m18 := PySem.W.mg_of X G a18
  have F18 := fun_mk (st := sWeights) l18 c_18 k18
  have b18 := F18.binds (ps := ["turns", "stand"]) fun _ _ _ _ _ _ us hl => match us, hl with | [_, _], _ => rfl
  have m19 := PySem.W.mg_of X G a19
  have F19 := fun_mk (st := sPoly) l19 c_19 k19
  have b19 := F19.binds (ps := ["bag", "pots"]) fun _ _ _ _ _ _ us hl => match us, hl with | [_, _], _ => rfl
  have m20 := PySem.W.mg_of X G a20
  have F20 := fun_mk (st := sAt) l20 c_20 k20
  have b20 := F20.binds (ps := ["poly", "counts"]) fun _ _ _ _ _ _ us hl => match us, hl with | [_, _], _ => rfl
  have m21 := PySem.W.mg_of X G a21
  have F21 := fun_mk (st := sSideOf) l21 c_21 k21
  have b21 := F21.binds (ps := ["told", "pots"]) fun _ _ _ _ _ _ us hl => match us, hl with | [_, _], _ => rfl
  have m22 := PySem.W.mg_of X G a22
  have F22 := fun_mk (st := sNothing) l22 c_22 k22
  have b22 := F22.binds (ps := ["act"]) fun _ _ _ _ _ _ us hl => match us, hl with | [_], _ => rfl
  have m23 := PySem.W.mg_of X G a23
  have F23 := fun_mk (st := sLaw) l23 c_23 k23
  have b23 := F23.binds (ps := ["script"]) fun _ _ _ _ _ _ us hl => match us, hl with | [_], _ => rfl
  have hS := hd_mk oS rq1
  have hL := hd_mk oL rq2
  have tS : h.get? PS = some { cls := .none, data := .fields #[] } := own "side_of" f21 rS m21 c21 PS _ _ _ _ _ _ l21 rfl rfl oS iS
  have tL : h.get? PL = some { cls := .none, data := .fields #[] } := own "law" fa rL m23 c23 PL _ _ _ _ _ _ l23 rfl rfl oL iL
  refine ⟨PySem.W.fnOf "law" "law" (defArgs sLaw) (defBody sLaw) (defScope sLaw) .none kV23 dc23 pm23 an23 (.ref c23) ct23, [(c23, PL), (c21, PS)], spLaw K [(PL, qLam "law"), (PS, qLam "side_of")], ?_, ?_, ?_, fun s u => .of_eq rfl, fun H a ns hn _ hT hS => ?_, fun base KX Gb TBs => ?_⟩
  · intro p hp
    simp only [List.mem_cons, List.not_mem_nil, or_false] at hp
    rcases hp with rfl | rfl
    · exact tL
    · exact tS
  · intro p hp
    simp only [List.mem_cons, List.not_mem_nil, or_false] at hp
    rcases hp with rfl | rfl
    · exact nL
    · exact nS
  · intro p hp
    simp only [List.mem_cons, List.not_mem_nil, or_false] at hp
    rcases hp with rfl | rfl
    · exact PySem.W.codeHd_of_K X hL
    · exact PySem.W.codeHd_of_K X hS
  · refine ⟨a, ns, rfl, hS, hn, fun p hp => ?_, fun _ => rfl⟩
    simp only [List.mem_cons, List.not_mem_nil, or_false] at hp
    rcases hp with rfl | rfl
    · exact TabS.nil (hT (c23, PL) (by simp))
    · exact TabS.nil (hT (c21, PS) (by simp))
  · have TBL : TabB base mg c23 PL := TBs (c23, PL) (by simp)
    have TBS : TabB base mg c21 PS := TBs (c21, PS) (by simp)
    have g1 : Fn l.prog w K mg base L2.CX0 1 "is_integer" ["thing"] spIsInt := ⟨f1, _, ok_isint F1 B, m1, k1, b1⟩
    have g2 : Fn l.prog w K mg base L2.CX0 2 "is_count" ["thing"] spIsCount := ⟨f2, _, ok_iscount F2 g1, m2, k2, b2⟩
    have g3 : Fn l.prog w K mg base L2.CX0 1 "is_small" ["integer"] spIsSmall := ⟨f3, _, ok_issmall F3 B, m3, k3, b3⟩
    have g4 : Fn l.prog w K mg base (L2.CX l.prog w) 2 "tidied" ["terms", "pots"] (spTid CN) := ⟨f4, _, ok_tidied F4 T g3, m4, k4, b4⟩
    have g5 : Fn l.prog w K mg base (L2.CX l.prog w) 3 "number" ["told", "pots"] spNum := ⟨f5, _, ok_number F5 g4, m5, k5, b5⟩
    have g6 : Fn l.prog w K mg base (L2.CX l.prog w) 3 "count_of" ["pot", "pots"] (spCnt CN) := ⟨f6, _, ok_countof F6 T g2, m6, k6, b6⟩
    have g7 : Fn l.prog w K mg base L2.CX0 1 "pots_of" ["one", "other"] spPotsOf := ⟨f7, _, ok_potsof F7 B, m7, k7, b7⟩
    have g8 : Fn l.prog w K mg base (L2.CX l.prog w) 3 "plus" ["one", "other"] (spBin CN plusP) := ⟨f8, _, ok_plus F8 B g4 g7, m8, k8, b8⟩
    have g9 : Fn l.prog w K mg base L2.CX0 1 "negative" ["one"] spNeg := ⟨f9, _, ok_negative F9 B, m9, k9, b9⟩
    have g10 : Fn l.prog w K mg base (L2.CX l.prog w) 4 "minus" ["one", "other"] (spBin CN minusP) := ⟨f10, _, ok_minus F10 g8 g9, m10, k10, b10⟩
    have g11 : Fn l.prog w K mg base (L2.CX l.prog w) 3 "times" ["one", "other"] spTim := ⟨f11, _, ok_times F11 B g4 g7, m11, k11, b11⟩
    have g12 : Fn l.prog w K mg base (L2.CX l.prog w) 5 "falling" ["taken"] spFall := ⟨f12, _, ok_falling F12 B g5 g6 g10 g11, m12, k12, b12⟩
    have g13 : Fn l.prog w K mg base (L2.CX l.prog w) 6 "weight_of_side" ["taken", "rate"] spWei := ⟨f13, _, ok_weight F13 B g5 g12 g11, m13, k13, b13⟩
    have g14 : Fn l.prog w K mg base (L2.CX l.prog w) 5 "shift_of" ["told", "pot", "pots"] spShi := ⟨f14, _, ok_shift F14 B g6 g10, m14, k14, b14⟩
    have g15 : Fn l.prog w K mg base L2.CX0 1 "worth_at" ["told", "counts"] spEvl := ⟨f15, _, ok_worth F15 B, m15, k15, b15⟩
    have g16 : Fn l.prog w K mg base L2.CX0 1 "_law_bag" ["script"] (spBag K) := ⟨f16, _, ok_bag F16 B, m16, k16, b16⟩
    have g17 : Fn l.prog w K mg base L2.CX0 1 "_law_take" ["bag", "many"] spTake := ⟨f17, _, ok_take F17 B, m17, k17, b17⟩
    have g18 : Fn l.prog w K mg base L2.CX0 1 "_law_weights" ["turns", "stand"] spWts := ⟨f18, _, ok_weights F18 B, m18, k18, b18⟩
    have g19 : Fn l.prog w K mg base L2.CX0 2 "_law_poly" ["bag", "pots"] spPoly := ⟨f19, _, ok_poly F19 B g17, m19, k19, b19⟩
    have g20 : Fn l.prog w K mg base L2.CX0 1 "_law_at" ["poly", "counts"] spEvl := ⟨f20, _, ok_at F20 B, m20, k20, b20⟩
    have huS : ∀ p ∈ [(PL, qLam "law"), (PS, qLam "side_of")], p.1 = PS → p.2 = qLam "side_of" := fun p hp e => by
      simp only [List.mem_cons, List.not_mem_nil, or_false] at hp
      rcases hp with rfl | rfl
      · exact absurd e ne
      · rfl
    have huL : ∀ p ∈ [(PL, qLam "law"), (PS, qLam "side_of")], p.1 = PL → p.2 = qLam "law" := fun p hp e => by
      simp only [List.mem_cons, List.not_mem_nil, or_false] at hp
      rcases hp with rfl | rfl
      · rfl
      · exact absurd e.symm ne
    have g21 : Fn l.prog w K mg base (L2.CX l.prog w) 7 "side_of" ["told", "pots"] (spSide [(PL, qLam "law"), (PS, qLam "side_of")]) := ⟨f21, _, ok_side T l21 c_21 TBS (by simp) huS g13, m21, k21, b21⟩
    exact ok_law T eN l23 c_23 TBL (by simp) huL l22 c_22 m22 k22 b22 ⟨g16, g17, g19, g20, g15, g18, g8, g10, g11, g9, g5, g6, g12, g13, g21, g14⟩
theorem cx_no {P : Program} {w : World} {H : Hp} {s : Shared} {e : Value} {s' : Shared} (z : L2.CX P w [] H s (fun _ _ _ => False) e s') : False := by
  obtain ⟨_, _, _, _, _, _, _, _, _, _, _, _, z⟩ := z
  exact z
end K64
open PySem PySem.W PyProof.Rows
set_option maxRecDepth 100000 in
set_option maxHeartbeats 0 in
theorem PySem.Challenge.cw_thrownpots_k64_polynomials_of_weights_holds : PySem.Challenge.rw_thrownpots_k64_polynomials_of_weights.Holds := by
  w_on; o_law; k_head; (case hw => w_witness2)
  k_fill
  refine K64.walk_ofTabs (l := PySem.Challenge.rw_thrownpots_k64_polynomials_of_weights) (n := 63) (k := 8) (CX := fun w => L2.CX PySem.Challenge.rw_thrownpots_k64_polynomials_of_weights.prog w) (x := "script") rfl (by decide) rfl ⟨rfl, by decide, by decide⟩ (fun w h Y => PySem.W.km_in_of Y) ?F (fun _ _ _ _ _ z => K64.cx_no z)
  case F =>
    intro w mg fa h Y KX G hmg own
    refine' K64.all_mk KX G hmg own (by decide +kernel) (by decide +kernel) ?a1 ?l1 ?c_1 ?k1 ?a2 ?l2 ?c_2 ?k2 ?a3 ?l3 ?c_3 ?k3 ?a4 ?l4 ?c_4 ?k4 ?a5 ?l5 ?c_5 ?k5 ?a6 ?l6 ?c_6 ?k6 ?a7 ?l7 ?c_7 ?k7 ?a8 ?l8 ?c_8 ?k8 ?a9 ?l9 ?c_9 ?k9 ?a10 ?l10 ?c_10 ?k10 ?a11 ?l11 ?c_11 ?k11 ?a12 ?l12 ?c_12 ?k12 ?a13 ?l13 ?c_13 ?k13 ?a14 ?l14 ?c_14 ?k14 ?a15 ?l15 ?c_15 ?k15 ?a16 ?l16 ?c_16 ?k16 ?a17 ?l17 ?c_17 ?k17 ?a18 ?l18 ?c_18 ?k18 ?a19 ?l19 ?c_19 ?k19 ?a20 ?l20 ?c_20 ?k20 ?a21 ?l21 ?c_21 ?k21 ?a22 ?l22 ?c_22 ?k22 ?a23 ?l23 ?c_23 ?k23 ?aN ?xN ?kN ?bN ?tN ?iN ?sN ?aT ?aM ?aX ?z1 ?z2 ?z3 ?z4 ?z5 ?z6 ?z7 ?z8 ?z9 ?z10 ?z11 ?z12 ?z13 ?z14 ?z15 ?oS ?oL ?iS ?iL ?rq1 ?rq2 ?nS ?nL ?ne
    (case a1 => k_is); (case l1 => k_is); (case c_1 => k_is); (case k1 => k_is); (case a2 => k_is); (case l2 => k_is); (case c_2 => k_is); (case k2 => k_is)
    (case a3 => k_is); (case l3 => k_is); (case c_3 => k_is); (case k3 => k_is); (case a4 => k_is); (case l4 => k_is); (case c_4 => k_is); (case k4 => k_is)
    (case a5 => k_is); (case l5 => k_is); (case c_5 => k_is); (case k5 => k_is); (case a6 => k_is); (case l6 => k_is); (case c_6 => k_is); (case k6 => k_is)
    (case a7 => k_is); (case l7 => k_is); (case c_7 => k_is); (case k7 => k_is); (case a8 => k_is); (case l8 => k_is); (case c_8 => k_is); (case k8 => k_is)
    (case a9 => k_is); (case l9 => k_is); (case c_9 => k_is); (case k9 => k_is); (case a10 => k_is); (case l10 => k_is); (case c_10 => k_is); (case k10 => k_is)
    (case a11 => k_is); (case l11 => k_is); (case c_11 => k_is); (case k11 => k_is); (case a12 => k_is); (case l12 => k_is); (case c_12 => k_is); (case k12 => k_is)
    (case a13 => k_is); (case l13 => k_is); (case c_13 => k_is); (case k13 => k_is); (case a14 => k_is); (case l14 => k_is); (case c_14 => k_is); (case k14 => k_is)
    (case a15 => k_is); (case l15 => k_is); (case c_15 => k_is); (case k15 => k_is); (case a16 => k_is); (case l16 => k_is); (case c_16 => k_is); (case k16 => k_is)
    (case a17 => k_is); (case l17 => k_is); (case c_17 => k_is); (case k17 => k_is); (case a18 => k_is); (case l18 => k_is); (case c_18 => k_is); (case k18 => k_is)
    (case a19 => k_is); (case l19 => k_is); (case c_19 => k_is); (case k19 => k_is); (case a20 => k_is); (case l20 => k_is); (case c_20 => k_is); (case k20 => k_is)
    (case a21 => k_is); (case l21 => k_is); (case c_21 => k_is); (case k21 => k_is); (case a22 => k_is); (case l22 => k_is); (case c_22 => k_is); (case k22 => k_is)
    (case a23 => k_is); (case l23 => k_is); (case c_23 => k_is); (case k23 => k_is); (case aN => k_is); (case xN => k_exc); (case kN => k_is); (case bN => k_is)
    (case tN => k_is); (case iN => k_is); (case sN => first | rfl | k_is); (case aT => k_is); (case aM => k_is); (case aX => k_is); (case z1 => k_is)
    (case z2 => k_is); (case z3 => k_is); (case z4 => k_is); (case z5 => k_is); (case z6 => k_is); (case z7 => k_is); (case z8 => k_is); (case z9 => k_is)
    (case z10 => k_is); (case z11 => k_is); (case z12 => k_is); (case z13 => k_is); (case z14 => k_is); (case z15 => k_is); (case oS => k_is); (case oL => k_is)
    (case iS => rfl); (case iL => rfl); (case rq1 => first | decide +kernel | rfl); (case rq2 => first | decide +kernel | rfl)
    (case nS => rfl); (case nL => rfl); (case ne => decide)
#print axioms PySem.Challenge.cw_thrownpots_k64_polynomials_of_weights_holds
