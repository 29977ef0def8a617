import PyProof.Rows.All
import Wide.All
import OpenK.AllK
import Wide.FinOn
import HandS.ForMost
import HandS.Deep
import HandS.Conv
import HandS.Sort
import HandS.DictTup
import HandS.Walk
import HandS.Evl
import HandS.ClsMeth
import KE.KDictCopyH
import PyProof.DictMoreH
import PySem.Challenge.RW_heldafar_k48_whole_leases_safe
set_option Elab.async false
set_option linter.all false
set_option maxRecDepth 100000
set_option maxHeartbeats 4000000
/-! Rules of our own: pop of a tuple key, sorted of a dict of pairs, update of an empty dict, a class's function called -/
namespace K48
open PySem PySem.Spec PyProof.Rows L2

section
variable {X : Cx}
/-- d.pop(k), there, the key a tuple -/
def rPopT1 : V → List V → Hp → VK → Prop := fun x xs H Q => ∃ (a : Addr) (kvs : List (List Key × V)) (k : List Key) (b : Addr) (v : V), x = .ref a ∧ xs = [.ref b] ∧ H a = some (.dT kvs) ∧ H b = some (.tup (k.map kV)) ∧
  valV kvs k = some v ∧ Q v (upd H a (.dT (dropK kvs k)))
theorem mt_popT1 (hu : X.A.units + 1 < cLine) : MtR X "dict.pop" rPopT1 := by
  intro pins s σ H x xs v us Q I rx rxs h
  obtain ⟨a, kvs, k, b, d, rfl, rfl, ha, hb, hv, q⟩ := h
  cases rx
  obtain ⟨u1, rfl, r1⟩ := vals1 rxs
  cases r1
  obtain ⟨z, hd, xs', rel, dd⟩ := dt_of I.hok ha
  have hz : xs'.length ≤ sizeLine := by rw [← Paired.length rel]; exact z
  have r := rel.val k
  rw [hv] at r
  obtain ⟨p, hp, rp⟩ : ∃ p, atKey xs' k = some p ∧ RelV d p.2 := by
    cases e : atKey xs' k with
    | none =>
      rw [e] at r
      exact (show False from r).elim
    | some p =>
      rw [e] at r
      exact ⟨p, rfl, r⟩
  refine call_pop_heap (hsz := hz) (more := []) (.inl rfl) (PySem.F.args_dict_pop_2 _ _) (tupleKind_room_in1 hu) (key_of I.hok hb) hd dd hp fun h' dd' hs => ?_
  obtain ⟨o, es, ep, hq, h2, h3, h4, _, h5⟩ := dd'
  have I2 : Inv X pins σ (upd H a (.dT (dropK kvs k))) { s with heap := h', toks := s.toks + (tupleKind (mixKind X.prog X.w)).draws k } :=
    d_write I (by rw [ha]; exact True.intro) hs ⟨o, hq⟩ ⟨Nat.le_trans (dropK_le kvs k) z, hd, _, (L2.DX.KT_drop k rel).keeps (fun c ys ec => (by rw [upd_ne (ne_of ec ha (fun z => nomatch z))]; exact ec)), o, es, ep, hq, h2, h3, h4, h5⟩
  exact ⟨d, _, I2, rp, q⟩

/-- sorted(d), d's keys pairs of ints: a new list of the key tuples, in some order -/
theorem cr_sortedDT (hc : X.calm = true) : CallR X (.builtin "sorted") (fun xs H Q => ∃ d kvs, xs = [V.ref d] ∧ Rd H d (.dT kvs) ∧ (∀ p ∈ kvs, ∃ i j : Int, p.1 = [Sum.inl i, Sum.inl j]) ∧
    ∀ p (bs ys : List Addr), H p = none → IsKeys H kvs bs → ys.Perm bs → Q (.ref p) (upd H p (.lst (ys.map V.ref)))) := by
  intro pins s σ H xs us Q I r h
  obtain ⟨d, kvs, rfl, hd, hk, q⟩ := h
  obtain ⟨u, rfl, rx⟩ := r.one
  cases rx
  obtain ⟨z, hs, ks, pr, o, es, ep, ho, hx, hdt, he, hn⟩ := (show ObjOk X.prog X.w H s.heap d (.dT kvs) from hd.ok I.hok)
  have l1 : es.size = ks.length := size_of_entries he
  have l2 : kvs.length = ks.length := Paired.length pr
  have h16 : es.size ≤ sizeLine := by omega
  refine Calls.call_function_entry PyProof.Rows.kind_sorted PyProof.Rows.plain_sorted PyProof.Rows.entry_sorted (PyProof.Rows.args_sorted1 _) ?_
  unfold Builtin.«sorted»
  refine wpAny_bind (m := checkCount "sorted" 1 1 _) (wpAny_pure ?_)
  refine wpAny_bind (PySem.W.kdu_collect (A := X.A.in1) (kdl_raw hs hx hdt) (I.ok.hd hc) ho h16 fun h' tk acc kp it => ?_)
  have ea : acc.toList = ks.map fun x => Value.ref x.2.1 := by
    have hl : acc.toList.length = ks.length := by rw [Array.length_toList, it.1]; exact l1
    apply List.ext_getElem?
    intro j
    rw [List.getElem?_map]
    cases hj : acc.toList[j]? with
    | none =>
      have h1 := List.getElem?_eq_none_iff.mp hj
      rw [List.getElem?_eq_none (by omega)]
      all_goals rfl
    | some v =>
      obtain ⟨en, hen, hv⟩ := it.2 j v (by rw [← Array.getElem?_toList]; exact hj)
      have qe := entry_at he j
      rw [hen] at qe
      cases hb : ks[j]? with
      | none =>
        rw [hb] at qe
        exact nomatch (show some en = none from qe)
      | some b =>
        rw [hb] at qe
        have e2 : en = entryOfKey (tupleKind (mixKind X.prog X.w)) b := Option.some.inj qe
        rw [hv, e2]
        all_goals rfl
  have eb : acc.toList = (ks.map fun x => x.2.1).map Value.ref := by rw [ea, List.map_map]; all_goals rfl
  have hal : acc.toList.length ≤ sizeLine := by rw [eb, List.length_map, List.length_map]; omega
  have I1 : Inv X pins σ H { s with heap := h', toks := tk } := I.kept kp
  have hkeys := isKeys_of pr
  refine wpAny_bind (wpAny_newList ?_ hal)
  have hoL : (h'.push (seqObj "list" acc.toList.toArray 0)).get? h'.objs.size = some (seqObj "list" acc.toList.toArray 0) := Heap.get?_push_size _ rfl
  show wpAny _ _ _ _ _ { s with heap := h'.push (seqObj "list" acc.toList.toArray 0), toks := tk }
  have pairs : ∀ v ∈ acc.toList, ∃ x y, Srt.IsPair (h'.push (seqObj "list" acc.toList.toArray 0)) v x y := by
    intro v hv
    rw [eb] at hv
    obtain ⟨b, hb, rfl⟩ := List.mem_map.mp hv
    obtain ⟨x, hx', rfl⟩ := List.mem_map.mp hb
    obtain ⟨j, hj⟩ := List.mem_iff_getElem?.mp hx'
    obtain ⟨p, hp, e1, e2, _⟩ := L2.DX.pget pr hj
    obtain ⟨i, k, e3⟩ := hk p (List.mem_of_getElem? hp)
    rw [e3] at e2
    obtain ⟨_, its2, r2, o2, ho2, hc2, n2, hd2⟩ := I1.hok _ _ e2
    obtain ⟨u1, u2, e5, ri, rj⟩ := vals2 r2
    obtain ⟨t1, rfl⟩ := ri
    obtain ⟨t2, rfl⟩ := rj
    subst e5
    exact ⟨i, k, x.2.1, o2, t1, t2, n2, rfl, Heap.get?_push_of_some _ ho2, hc2, hd2⟩
  refine wpAny_bind (wpAny_holding (wpAny_call_entry PyProof.Rows.slot_list_sort ⟨_, hoL, rfl⟩ PyProof.Rows.entry_list_sort
    (Srt.list_sort_any (s := { s with heap := h'.push (seqObj "list" acc.toList.toArray 0), toks := tk }) hoL hal (fun h2 => Srt.pairs_sortable (by omega) pairs fun o e c => ?_) fun out hp => ⟨_, rfl, ?_⟩) (PyProof.Rows.args_list_sort _)))
  · have e' : some o = some (seqObj "list" acc.toList.toArray 0) := e.symm.trans hoL
    cases e'
    exact absurd (Value.type.inj c) (by decide)
  obtain ⟨e', he'⟩ := PyProof.Rows.sortedHeap_at (vs := acc.toList) (out := out.toArray) hoL
  obtain ⟨ys, py, ey⟩ : ∃ ys : List Addr, ys.Perm (ks.map fun x => x.2.1) ∧ ys.map Value.ref = out := perm_lift Value.ref hp _ eb.symm
  have hlen : (ys.map V.ref).length ≤ sizeLine := by
    rw [List.length_map, py.length_eq, List.length_map]
    omega
  refine wpAny_pure ⟨_, rfl, .ref h'.objs.size, upd H h'.objs.size (.lst (ys.map V.ref)), I1.laid (t' := tk) (fun b u e => ?_) (Nat.le_refl _)
    (show ObjOk X.prog X.w _ _ _ (.lst (ys.map V.ref)) from ⟨hlen, out, e', by rw [← ey]; exact vals_refs ys, he'⟩), rfl, q _ _ ys (I1.hok.fresh (Nat.le_refl _)) hkeys py⟩
  have hb : b < h'.objs.size := Heap.lt_size e
  rw [PyProof.Rows.sortedHeap_old (Nat.ne_of_lt hb) (by rw [size_push']; exact Nat.lt_succ_of_lt hb)]
  exact Heap.get?_push_of_some _ e

/-- C.m(e, ..): C a class of the text, m one of its functions -/
structure CFn (K : PySem.W.Frag) (C : Addr) (mc : Value) (m : Str) (f : Addr) : Prop where
  at_ : PySem.W.findCls K (.ref C) mc m = some (.val (.ref f))
  kp : PySem.W.keepIn K (.ref f) = true
def tCFn (C : Addr) (sp : Sp) (dvs : List V) (E : XK) (ta : TE) (t : TA) : TE := fun σ H Q => ta σ H fun x H1 => x = .ref C ∧ t σ H1 fun vs H2 => sp (vs ++ dvs) H2 Q E
theorem pe_clsfn {CX : CXT} {k : Nat} {f C : Addr} {fd : FuncData} {ps : List Str} {sp : Sp} {ds : List Value} {dvs : List V} {E : XK} {mc : Value} {o e : Expr} {es : List Expr} {m : Str} {pos apos : Pos} {ta : TE} {t : TA} {pl : Sem Bool}
    (he : PE X o ta) (r : ClX.CRead X.K C mc) (c : CFn X.K C mc m f) (F : FnOk X.prog X.w X.K X.mg X.base CX k f fd ps sp) (hr : Room k X.A) (hb : Binds X.K fd ps ds) (hd : Vals dvs ds) (hx : Passes CX X E) (ha : PA X (e :: es) t)
    (hst : starEach (e :: es) X.env = (false, eval e X.env) :: starEach es X.env := by rfl) (hpl : (backTo pos (starEach es X.env)).any (·.1) = false := by rfl)
    (ht : eval (.Call (.Attribute o m apos) (e :: es) [] pos) X.env = (do
      let ov ← eval o X.env
      standAt apos.atName
      let (f, first) ← holding [ov] (getMethod ov m pl)
      callWith pos f first (backTo pos (starEach (e :: es) X.env)) (backToKw pos (keywordEach [] X.env))) := by rfl) :
    PE X (.Call (.Attribute o m apos) (e :: es) [] pos) (tCFn C sp dvs E ta t) := by
  refine ⟨fun pins s σ H Q I h => ?_⟩
  refine PySem.W.methodCall_KW (pl := pl) (thn (he.run pins s σ H _ I h) fun u s1 ⟨x, H1, I1, rx, ex, q⟩ => ?_) ht
  subst ex
  obtain rfl : u = Value.ref C := rx
  refine PySem.W.method_cls I1.kIn r.ga (PySem.W.cls_value I1.kIn r.rd c.at_ rfl ?_)
  have I2 := I1.tok (s1.toks + 1)
  refine PySem.W.callWith_K (first := []) (h₀ := X.base) I.ok.mod.kin c.kp (thn (ha.run pos pins _ σ H1 _ I2 q) fun us s2 ⟨vs, H2, I3, rv, q2⟩ => ⟨I3.kIn, ?_⟩) hst hpl
  exact run_fn (us := us) (vs := vs) F hr hb hd hx I3 rv q2
end
/-! ### d.update(e) of an empty dict -/
theorem stored_all {K : Type} [DecidableEq K] : ∀ (xs acc : List (K × Addr × Value)), ((acc ++ xs).map (·.1)).Nodup → storedAllH acc xs = acc ++ xs
  | [], acc, _ => (List.append_nil acc).symm
  | p :: r, acc, h => by
    have hn : atKey acc p.1 = none := by
      cases e : atKey acc p.1 with
      | none => rfl
      | some q =>
        exfalso
        obtain ⟨y, hy, _⟩ := Option.map_eq_some_iff.mp e
        have h1 := List.find?_some hy
        have h2 := List.mem_of_find?_eq_some hy
        have e1 : y.1 = p.1 := of_decide_eq_true h1
        rw [List.map_append, List.map_cons] at h
        exact (List.nodup_append.mp h).2.2 y.1 (List.mem_map.mpr ⟨y, h2, rfl⟩) p.1 (List.mem_cons_self ..) e1
    show storedAllH (storedH acc p.1 p.2.1 p.2.2) r = acc ++ p :: r
    rw [storedH_new hn, stored_all r (acc ++ [(p.1, p.2.1, p.2.2)]) (by rw [List.append_assoc]; exact h), List.append_assoc]
    rfl
def hashP (p : List Key) : Int := reduceHash (Builtin.Tuple.tupleHashOf (p.map fun k => match k with | .inl i => hashInt i | .inr _ => 0))
def rUpdT : V → List V → Hp → VK → Prop := fun x xs H Q => ∃ (a b : Addr) (kvs : List (List Key × V)), x = .ref a ∧ xs = [.ref b] ∧ a ≠ b ∧ H a = some (.dT []) ∧ H b = some (.dT kvs) ∧ (∀ p ∈ kvs, ∃ i j : Int, p.1 = [Sum.inl i, Sum.inl j]) ∧
  (kvs.map fun p => hashP p.1).Nodup ∧ Q .non (upd H a (.dT kvs))
section
variable {X : Cx}
theorem mt_updT (hu : X.A.units + 1 < cLine) : MtR X "dict.update" rUpdT := by
  intro pins s σ H x xs v us Q I rx rxs h
  obtain ⟨a, b, kvs, rfl, rfl, ne, ha, hb, hk, hap, q⟩ := h
  cases rx
  obtain ⟨u1, rfl, r1⟩ := vals1 rxs
  cases r1
  obtain ⟨z, hd, xs', rel, dd⟩ := dt_of I.hok ha
  obtain ⟨z2, hd2, ys, rel2, dd2⟩ := dt_of I.hok hb
  cases rel
  have l2 : kvs.length = ys.length := Paired.length rel2
  have nd : (ys.map (·.1)).Nodup := dd2.nodup
  have hsh : ∀ {l : List (List Key × V)} {m : List (List Key × Addr × Value)}, KT H l m → (∀ p ∈ l, ∃ i j : Int, p.1 = [Sum.inl i, Sum.inl j]) → m.map (fun y => (tupleKind (mixKind X.prog X.w)).hash y.1) = l.map fun p => hashP p.1 := by
    intro l m r
    induction r with
    | nil => exact fun _ => rfl
    | @cons p y ps ys hq t ih =>
      intro hp
      rw [List.map_cons, List.map_cons, ih fun p' hp' => hp p' (List.mem_cons_of_mem _ hp')]
      obtain ⟨i, j, e⟩ := hp p (List.mem_cons_self ..)
      rw [← hq.1, e]
      rfl
  have typ : ∀ {l : List (List Key × V)} {m : List (List Key × Addr × Value)}, KT H l m → ∀ y ∈ m, s.TypeIs (.ref y.2.1) "tuple" := by
    intro l m r
    induction r with
    | nil => exact fun _ h => nomatch h
    | @cons p y ps ys hq t ih =>
      intro w hw
      rcases List.mem_cons.mp hw with e | hw
      · subst e
        obtain ⟨_, its, _, o, ho, hc, _⟩ := (show ObjOk X.prog X.w H s.heap _ (.tup _) from I.hok _ _ hq.2.1)
        exact ⟨o, ho, hc⟩
      · exact ih w hw
  refine call_update_dictH (tupleKind_room_in1 hu) ne hd2 dd dd2 (.inr ⟨typ rel2, by rw [hsh rel2 hk]; exact hap⟩) (by show 0 + _ ≤ _; omega) fun h' dd' _ hs => ?_
  rw [stored_all ys [] nd] at dd'
  obtain ⟨o, es, ep, hq, h2, h3, h4, _, h5⟩ := dd'
  have I2 : Inv X pins σ (upd H a (.dT kvs)) { s with heap := h', toks := s.toks } :=
    d_write I (by rw [ha]; exact True.intro) hs ⟨o, hq⟩ ⟨z2, hd, _, rel2.keeps (fun c ys ec => (by rw [upd_ne (ne_of ec ha (fun z => nomatch z))]; exact ec)), o, es, ep, hq, h2, h3, h4, h5⟩
  exact ⟨.non, _, I2, rfl, q⟩
end
end K48

/-! The text by places, tables of leases, what stands where -/
namespace K48
open PySem L2

/-! ### the text -/
def top (i : Nat) : Stmt := PySem.Challenge.pw_heldafar_k48_whole_leases_safe.main.body.getD i (.Pass ⟨0, 0, 0, 0⟩)
abbrev sPInit : Stmt := inClass (top 2) 0
abbrev sIsOwn : Stmt := inClass (top 2) 1
abbrev sInit : Stmt := inClass (top 5) 0
abbrev sCopied : Stmt := inClass (top 5) 1
abbrev sLease : Stmt := inClass (top 5) 2
abbrev sLend : Stmt := inClass (top 5) 3
abbrev sHandOn : Stmt := inClass (top 5) 4
abbrev sGot : Stmt := inClass (top 5) 5
abbrev sHeld : Stmt := inClass (top 5) 6
abbrev sLetGo : Stmt := inClass (top 5) 7
abbrev sTake : Stmt := inClass (top 5) 8
abbrev sLapse : Stmt := inClass (top 5) 9
abbrev sKnows : Stmt := inClass (top 5) 10
abbrev sCell : Stmt := top 7
abbrev sDraws : Stmt := top 8
abbrev sWeb : Stmt := top 9
abbrev sWritten : Stmt := top 10
abbrev sHanded : Stmt := top 11
abbrev sDone : Stmt := top 12
abbrev sSome : Stmt := top 13
abbrev sKept : Stmt := top 14
abbrev sStepped : Stmt := top 15
abbrev sNames : Stmt := top 16
abbrev sComes : Stmt := top 17
abbrev sTurned : Stmt := top 18
abbrev sLeases : Stmt := top 19
abbrev sLaw : Stmt := top 20

/-! ### what the top has written, gathered -/
structure TX (K : PySem.W.Frag) (mg : Str → Option Value) where
  C : Addr
  P : Addr
  aPI : Addr
  dPI : FuncData
  FPI : Fun K "__init__" "Part.__init__" sPInit aPI dPI
  aOwn : Addr
  dOwn : FuncData
  FOwn : Fun K "is_own" "Part.is_own" sIsOwn aOwn dOwn
  aInit : Addr
  dInit : FuncData
  FInit : Fun K "__init__" "LeasePart.__init__" sInit aInit dInit
  aCop : Addr
  dCop : FuncData
  FCop : Fun K "copied" "LeasePart.copied" sCopied aCop dCop
  aLease : Addr
  dLease : FuncData
  FLease : Fun K "lease" "LeasePart.lease" sLease aLease dLease
  aLend : Addr
  dLend : FuncData
  FLend : Fun K "lend" "LeasePart.lend" sLend aLend dLend
  aHand : Addr
  dHand : FuncData
  FHand : Fun K "hand_on" "LeasePart.hand_on" sHandOn aHand dHand
  aGot : Addr
  dGot : FuncData
  FGot : Fun K "got" "LeasePart.got" sGot aGot dGot
  aHeld : Addr
  dHeld : FuncData
  FHeld : Fun K "is_held" "LeasePart.is_held" sHeld aHeld dHeld
  aLet : Addr
  dLet : FuncData
  FLet : Fun K "let_go" "LeasePart.let_go" sLetGo aLet dLet
  aTake : Addr
  dTake : FuncData
  FTake : Fun K "take" "LeasePart.take" sTake aTake dTake
  aLapse : Addr
  dLapse : FuncData
  FLapse : Fun K "lapse" "LeasePart.lapse" sLapse aLapse dLapse
  aKnows : Addr
  dKnows : FuncData
  FKnows : Fun K "knows" "LeasePart.knows" sKnows aKnows dKnows
  aCell : Addr
  dCell : FuncData
  FCell : Fun K "_law_cell" "_law_cell" sCell aCell dCell
  aDraws : Addr
  dDraws : FuncData
  FDraws : Fun K "_law_draws" "_law_draws" sDraws aDraws dDraws
  aWeb : Addr
  dWeb : FuncData
  FWeb : Fun K "_law_web" "_law_web" sWeb aWeb dWeb
  aWri : Addr
  dWri : FuncData
  FWri : Fun K "_law_written" "_law_written" sWritten aWri dWri
  aHdd : Addr
  dHdd : FuncData
  FHdd : Fun K "_law_handed" "_law_handed" sHanded aHdd dHdd
  aDone : Addr
  dDone : FuncData
  FDone : Fun K "_law_done" "_law_done" sDone aDone dDone
  aSome : Addr
  dSome : FuncData
  FSome : Fun K "_law_some_done" "_law_some_done" sSome aSome dSome
  aKept : Addr
  dKept : FuncData
  FKept : Fun K "_law_kept" "_law_kept" sKept aKept dKept
  aStep : Addr
  dStep : FuncData
  FStep : Fun K "_law_stepped" "_law_stepped" sStepped aStep dStep
  aNames : Addr
  dNames : FuncData
  FNames : Fun K "_law_names" "_law_names" sNames aNames dNames
  aComes : Addr
  dComes : FuncData
  FComes : Fun K "_law_comes" "_law_comes" sComes aComes dComes
  aTurn : Addr
  dTurn : FuncData
  FTurn : Fun K "_law_turned" "_law_turned" sTurned aTurn dTurn
  aLs : Addr
  dLs : FuncData
  FLs : Fun K "_law_leases" "_law_leases" sLeases aLs dLs
  aLaw : Addr
  dLaw : FuncData
  FLaw : Fun K "law" "law" sLaw aLaw dLaw
  cl : Cls K C
  nHouse : NoAttr K C "house"
  nNow : NoAttr K C "now"
  nOwns : NoAttr K C "owns"
  nHeres : NoAttr K C "heres"
  mkC : Mk K C aInit
  rdP : ClX.CRead K P (.type "type")
  fnP : CFn K P (.type "type") "__init__" aPI
  mOwn : Meth K C "is_own" aOwn
  mCop : Meth K C "copied" aCop
  mLease : Meth K C "lease" aLease
  mLend : Meth K C "lend" aLend
  mHand : Meth K C "hand_on" aHand
  mGot : Meth K C "got" aGot
  mHeld : Meth K C "is_held" aHeld
  mLet : Meth K C "let_go" aLet
  mTake : Meth K C "take" aTake
  mLapse : Meth K C "lapse" aLapse
  mKnows : Meth K C "knows" aKnows
  gP : mg "Part" = some (.ref P)
  gC : mg "LeasePart" = some (.ref C)
  gLong : ∃ t, mg "LONG" = some (.int 8 t)
  gCell : mg "_law_cell" = some (.ref aCell)
  gDraws : mg "_law_draws" = some (.ref aDraws)
  gWeb : mg "_law_web" = some (.ref aWeb)
  gWri : mg "_law_written" = some (.ref aWri)
  gHdd : mg "_law_handed" = some (.ref aHdd)
  gDone : mg "_law_done" = some (.ref aDone)
  gSome : mg "_law_some_done" = some (.ref aSome)
  gKept : mg "_law_kept" = some (.ref aKept)
  gStep : mg "_law_stepped" = some (.ref aStep)
  gNames : mg "_law_names" = some (.ref aNames)
  gComes : mg "_law_comes" = some (.ref aComes)
  gTurn : mg "_law_turned" = some (.ref aTurn)
  gLs : mg "_law_leases" = some (.ref aLs)
  gLaw : mg "law" = some (.ref aLaw)
  zLen : mg "len" = none
  zMax : mg "max" = none
  zList : mg "list" = none
  zSorted : mg "sorted" = none
  zTuple : mg "tuple" = none
  zRange : mg "range" = none
  zEnum : mg "enumerate" = none

/-! ### tables: names with leases -/
abbrev Nm := Int × Int
abbrev Tb := List (Nm × Int)
def nk (n : Nm) : List Key := [.inl n.1, .inl n.2]
theorem nk_inj {a b : Nm} (h : nk a = nk b) : a = b := by
  unfold nk at h
  injection h with h1 h2
  injection h2 with h2 _
  exact Prod.ext (Sum.inl.inj h1) (Sum.inl.inj h2)
def kt (t : Tb) : List (List Key × V) := t.map fun p => (nk p.1, .int p.2)
def lk (t : Tb) (n : Nm) : Option Int := (t.find? fun p => decide (p.1 = n)).map (·.2)
def ptb (t : Tb) (n : Nm) (x : Int) : Tb := if (t.any fun p => decide (p.1 = n)) = true then t.map (fun p => if p.1 = n then (p.1, x) else p) else t ++ [(n, x)]
def drt (t : Tb) (n : Nm) : Tb := t.filter fun p => decide (p.1 ≠ n)
theorem lk_nil {n : Nm} : lk [] n = none := rfl
theorem lk_pos {p : Nm × Int} {r : Tb} {n : Nm} (e : p.1 = n) : lk (p :: r) n = some p.2 := by simp [lk, List.find?_cons, e]
theorem lk_neg {p : Nm × Int} {r : Tb} {n : Nm} (e : ¬ p.1 = n) : lk (p :: r) n = lk r n := by simp [lk, List.find?_cons, e]
theorem dec_nk (a b : Nm) : decide (nk a = nk b) = decide (a = b) := by
  by_cases h : a = b
  · rw [h]; simp
  · rw [decide_eq_false h]
    exact decide_eq_false fun e => h (nk_inj e)
theorem kt_lk : ∀ (t : Tb) (n : Nm), valV (kt t) (nk n) = (lk t n).map V.int
  | [], _ => rfl
  | p :: r, n => by
    by_cases e : p.1 = n
    · rw [lk_pos e]
      exact valV_pos (p := (nk p.1, V.int p.2)) (show nk p.1 = nk n by rw [e])
    · rw [lk_neg e]
      exact (valV_neg (p := (nk p.1, V.int p.2)) (fun q => e (nk_inj q))).trans (kt_lk r n)
theorem kt_any (n : Nm) : ∀ t : Tb, ((kt t).any fun kv => decide (kv.1 = nk n)) = t.any fun p => decide (p.1 = n)
  | [] => rfl
  | p :: r => by
    show (decide (nk p.1 = nk n) || ((kt r).any fun kv => decide (kv.1 = nk n))) = (decide (p.1 = n) || r.any fun p => decide (p.1 = n))
    rw [kt_any n r, dec_nk]
theorem kt_put (t : Tb) (n : Nm) (x : Int) : putK (kt t) (nk n) (.int x) = kt (ptb t n x) := by
  unfold putK ptb
  rw [kt_any]
  by_cases h : (t.any fun p => decide (p.1 = n)) = true
  · rw [if_pos h, if_pos h]
    unfold kt
    rw [List.map_map, List.map_map]
    refine List.map_congr_left fun p _ => ?_
    show (if nk p.1 = nk n then (nk p.1, V.int x) else (nk p.1, V.int p.2)) = (nk (if p.1 = n then (p.1, x) else p).1, V.int (if p.1 = n then (p.1, x) else p).2)
    by_cases e : p.1 = n
    · rw [if_pos e, if_pos (by rw [e])]
    · rw [if_neg e, if_neg (fun q => e (nk_inj q))]
  · rw [if_neg h, if_neg h]
    unfold kt
    rw [List.map_append]
    rfl
theorem kt_drop (n : Nm) : ∀ t : Tb, dropK (kt t) (nk n) = kt (drt t n)
  | [] => rfl
  | p :: r => by
    have ih := kt_drop n r
    by_cases e : p.1 = n
    · have h1 : drt (p :: r) n = drt r n := by unfold drt; rw [List.filter_cons, if_neg (by simp [e])]
      rw [h1, ← ih]
      exact dropK_pos (p := (nk p.1, V.int p.2)) (show nk p.1 = nk n by rw [e])
    · have h1 : drt (p :: r) n = p :: drt r n := by unfold drt; rw [List.filter_cons, if_pos (by simp [e])]
      rw [h1]
      show _ = (nk p.1, V.int p.2) :: kt (drt r n)
      rw [← ih]
      exact dropK_neg (p := (nk p.1, V.int p.2)) (fun q => e (nk_inj q))
theorem lk_map (n m : Nm) (x : Int) : ∀ t : Tb, lk (t.map fun p => if p.1 = n then (p.1, x) else p) m = (lk t m).map fun y => if m = n then x else y
  | [] => rfl
  | p :: r => by
    have ih := lk_map n m x r
    rw [List.map_cons]
    by_cases h : p.1 = n
    · rw [if_pos h]
      by_cases e : p.1 = m
      · rw [lk_pos (p := (p.1, x)) e, lk_pos e, Option.map_some, if_pos (e.symm.trans h)]
      · rw [lk_neg (p := (p.1, x)) e, lk_neg e, ih]
    · rw [if_neg h]
      by_cases e : p.1 = m
      · rw [lk_pos e, lk_pos e, Option.map_some, if_neg (fun z => h (e.trans z))]
      · rw [lk_neg e, lk_neg e, ih]
theorem lk_any (n : Nm) : ∀ t : Tb, (t.any fun p => decide (p.1 = n)) = (lk t n).isSome
  | [] => rfl
  | p :: r => by
    rw [List.any_cons]
    by_cases e : p.1 = n
    · simp only [lk_pos e, decide_eq_true e, Bool.true_or, Option.isSome_some]
    · rw [lk_neg e, decide_eq_false e, Bool.false_or]; exact lk_any n r
theorem lk_snoc (n m : Nm) (x : Int) : ∀ t : Tb, lk t n = none → lk (t ++ [(n, x)]) m = if m = n then some x else lk t m
  | [], _ => by
    by_cases e : n = m
    · rw [if_pos e.symm]; exact lk_pos (p := (n, x)) e
    · rw [if_neg (fun z => e z.symm)]; exact lk_neg (p := (n, x)) e
  | p :: r, hn => by
    rw [List.cons_append]
    have hk : ¬ p.1 = n := fun z => by rw [lk_pos z] at hn; cases hn
    rw [lk_neg hk] at hn
    have ih := lk_snoc n m x r hn
    by_cases e : p.1 = m
    · rw [lk_pos e, lk_pos e, if_neg (fun z => hk (e.trans z))]
    · rw [lk_neg e, lk_neg e, ih]
theorem lk_put (t : Tb) (n m : Nm) (x : Int) : lk (ptb t n x) m = if m = n then some x else lk t m := by
  unfold ptb
  by_cases a : (t.any fun p => decide (p.1 = n)) = true
  · rw [if_pos a, lk_map]
    rw [lk_any] at a
    by_cases e : m = n
    · obtain ⟨y, hy⟩ := Option.isSome_iff_exists.mp a
      rw [if_pos e, e, hy, Option.map_some, if_pos rfl]
    · rw [if_neg e]
      cases lk t m with
      | none => rfl
      | some y => rw [Option.map_some, if_neg e]
  · rw [if_neg a]
    refine lk_snoc n m x t ?_
    rw [lk_any] at a
    cases q : lk t n with
    | none => rfl
    | some y => rw [q] at a; exact (a rfl).elim
theorem lk_drt (t : Tb) (n m : Nm) : lk (drt t n) m = if m = n then none else lk t m := by
  induction t with
  | nil => by_cases e : m = n <;> simp [drt, lk, e]
  | cons p r ih =>
    by_cases e : p.1 = n
    · have h1 : drt (p :: r) n = drt r n := by unfold drt; rw [List.filter_cons, if_neg (by simp [e])]
      rw [h1, ih]
      by_cases c : m = n
      · rw [if_pos c, if_pos c]
      · rw [if_neg c, if_neg c, lk_neg (fun z => c (z.symm.trans e))]
    · have h1 : drt (p :: r) n = p :: drt r n := by unfold drt; rw [List.filter_cons, if_pos (by simp [e])]
      rw [h1]
      by_cases c : p.1 = m
      · rw [lk_pos c, if_neg (fun z => e (c.trans z)), lk_pos c]
      · rw [lk_neg c, lk_neg c, ih]
theorem ptb_len (t : Tb) (n : Nm) (x : Int) : (ptb t n x).length ≤ t.length + 1 := by
  unfold ptb
  split
  · rw [List.length_map]; omega
  · rw [List.length_append]; exact Nat.le_refl _
theorem drt_len (t : Tb) (n : Nm) : (drt t n).length ≤ t.length := List.length_filter_le _ _
theorem kt_len (t : Tb) : (kt t).length = t.length := List.length_map _
theorem lk_mem {t : Tb} {n : Nm} {x : Int} (h : lk t n = some x) : (n, x) ∈ t := by
  obtain ⟨p, hp, e⟩ := Option.map_eq_some_iff.mp h
  have h1 := List.find?_some hp
  have h2 := List.mem_of_find?_eq_some hp
  have e1 : p.1 = n := of_decide_eq_true h1
  rw [← e, ← e1]
  exact h2
theorem lk_of_mem : ∀ {t : Tb} {p : Nm × Int}, p ∈ t → (lk t p.1).isSome = true
  | q :: r, p, h => by
    by_cases e : q.1 = p.1
    · rw [lk_pos e]; rfl
    · rw [lk_neg e]
      rcases List.mem_cons.mp h with h | h
      · exact absurd (by rw [h]) e
      · exact lk_of_mem h
def Nd (t : Tb) : Prop := (t.map (·.1)).Nodup
theorem Nd.nil : Nd [] := List.nodup_nil
theorem Nd.put {t : Tb} (h : Nd t) (n : Nm) (x : Int) : Nd (ptb t n x) := by
  unfold ptb
  by_cases a : (t.any fun p => decide (p.1 = n)) = true
  · rw [if_pos a]
    unfold Nd
    rw [List.map_map]
    have e : ((fun x : Nm × Int => x.1) ∘ fun p => if p.1 = n then (p.1, x) else p) = fun p : Nm × Int => p.1 := by
      funext p
      show (if p.1 = n then (p.1, x) else p).1 = p.1
      split <;> rfl
    rw [e]
    exact h
  · rw [if_neg a]
    unfold Nd
    rw [List.map_append]
    refine nd_snoc h fun m => a ?_
    obtain ⟨p, hp, e⟩ := List.mem_map.mp m
    exact List.any_eq_true.mpr ⟨p, hp, decide_eq_true e⟩
theorem Nd.drt {t : Tb} (h : Nd t) (n : Nm) : Nd (drt t n) := List.Nodup.sublist (List.Sublist.map _ List.filter_sublist) h
theorem Nd.len {t : Tb} (h : Nd t) : True := True.intro
theorem kt_pair {t : Tb} : ∀ p ∈ kt t, ∃ i j : Int, p.1 = [Sum.inl i, Sum.inl j] := fun p hp => by
  obtain ⟨q, _, e⟩ := List.mem_map.mp hp
  exact ⟨q.1.1, q.1.2, by rw [← e]; rfl⟩
theorem keys_addrs {H : Hp} : ∀ {t : Tb} {bs : List Addr}, IsKeys H (kt t) bs → Paired (fun (p : Nm × Int) b => H b = some (.tup [.int p.1.1, .int p.1.2])) t bs
  | [], _, h => by cases h; exact .nil
  | p :: r, _, h => by
    cases h with
    | cons a b => exact .cons a (keys_addrs b)

/-! ### what stands where -/
def NmT (H : Hp) (t : Addr) (n : Nm) : Prop := H t = some (.tup [.int n.1, .int n.2])
def NmAt (H : Hp) (v : V) (n : Nm) : Prop := ∃ t, v = .ref t ∧ NmT H t n
/-- what F tells may change, all else stays; tuples stay -/
structure Ch (F : Addr → Prop) (H H' : Hp) : Prop where
  keep : ∀ b u, H b = some u → ¬ F b → H' b = some u
  tups : ∀ b xs, H b = some (.tup xs) → H' b = some (.tup xs)
  more : ∀ b, H' b = none → H b = none
theorem none_of_some {H H' : Hp} (h : ∀ b u, H b = some u → ∃ v, H' b = some v) : ∀ b, H' b = none → H b = none := fun b e => by
  cases q : H b with
  | none => rfl
  | some u => obtain ⟨v, hv⟩ := h b u q; rw [hv] at e; cases e
theorem Ch.refl (F : Addr → Prop) (H : Hp) : Ch F H H := ⟨fun _ _ h _ => h, fun _ _ h => h, fun _ h => h⟩
theorem Ch.trans {F : Addr → Prop} {H H1 H2 : Hp} (a : Ch F H H1) (b : Ch F H1 H2) : Ch F H H2 := ⟨fun c u e n => b.keep c u (a.keep c u e n) n, fun c xs e => b.tups c xs (a.tups c xs e), fun c e => a.more c (b.more c e)⟩
theorem Ch.mono {F G : Addr → Prop} {H H' : Hp} (a : Ch F H H') (h : ∀ b, F b → G b) : Ch G H H' := ⟨fun c u e n => a.keep c u e fun f => n (h c f), a.tups, a.more⟩
theorem Ch.same {F : Addr → Prop} {H H' : Hp} (s : Same H H') : Ch F H H' := ⟨fun c u e _ => s c u e, fun c xs e => s c _ e, none_of_some fun b u e => ⟨u, s b u e⟩⟩
theorem Same.new {H : Hp} {p : Addr} {o : HO} (h : H p = none) : Same H (upd H p o) := fun b u e => by rw [upd_ne (ne_of_none e h)]; exact e
theorem Ch.new {F : Addr → Prop} {H : Hp} {p : Addr} {o : HO} (h : H p = none) : Ch F H (upd H p o) := Ch.same (Same.new h)
theorem Ch.upd {F : Addr → Prop} {H : Hp} {p : Addr} {o u : HO} (hf : F p) (h : H p = some u) (hu : ∀ xs, u ≠ .tup xs) : Ch F H (upd H p o) :=
  ⟨fun b v e n => by rw [upd_ne (fun q => n (by rw [q]; exact hf))]; exact e, fun b xs e => by rw [upd_ne (fun q => by rw [q, h] at e; exact hu xs (Option.some.inj e))]; exact e,
    none_of_some fun b v e => by
      by_cases c : b = p
      · exact ⟨o, by rw [c, upd_same]⟩
      · exact ⟨v, by rw [upd_ne c]; exact e⟩⟩
theorem Ch.free {F : Addr → Prop} {H H' : Hp} (c : Ch F H H') {l : Addr} (h : H' l = none) (_ : ¬ F l) : H l = none := c.more l h
theorem NmT.ch {F : Addr → Prop} {H H' : Hp} {t : Addr} {n : Nm} (c : Ch F H H') (h : NmT H t n) : NmT H' t n := c.tups _ _ h
theorem NmAt.ch {F : Addr → Prop} {H H' : Hp} {v : V} {n : Nm} (c : Ch F H H') (h : NmAt H v n) : NmAt H' v n := let ⟨t, e, q⟩ := h; ⟨t, e, q.ch c⟩
theorem NmT.same {H H' : Hp} {t : Addr} {n : Nm} (c : Same H H') (h : NmT H t n) : NmT H' t n := c _ _ h
theorem NmAt.same {H H' : Hp} {v : V} {n : Nm} (c : Same H H') (h : NmAt H v n) : NmAt H' v n := let ⟨t, e, q⟩ := h; ⟨t, e, q.same c⟩
theorem NmT.inj {H : Hp} {t : Addr} {n m : Nm} (h : NmT H t n) (h' : NmT H t m) : n = m := by
  have e := Option.some.inj (h.symm.trans h')
  injection e with e
  injection e with e1 e2
  injection e2 with e2 _
  injection e1 with e1
  injection e2 with e2
  exact Prod.ext e1 e2

/-! ### a part -/
structure PA where
  dx : Addr
  o : Addr
  e : Addr
theorem f_hn : ¬ (("house" : Str) = "now") := by decide +kernel
theorem f_ho : ¬ (("house" : Str) = "owns") := by decide +kernel
theorem f_hh : ¬ (("house" : Str) = "heres") := by decide +kernel
theorem f_no : ¬ (("now" : Str) = "owns") := by decide +kernel
theorem f_nh : ¬ (("now" : Str) = "heres") := by decide +kernel
theorem f_oh : ¬ (("owns" : Str) = "heres") := by decide +kernel
def pfl (h nw : Int) (o e : Addr) : List (Str × V) := [("house", .int h), ("now", .int nw), ("owns", .ref o), ("heres", .ref e)]
theorem look_cons {f g : Str} {v : V} {r : List (Str × V)} : ((f, v) :: r).lookup g = if g = f then some v else r.lookup g := by
  by_cases h : g = f
  · subst h; simp [List.lookup]
  · have e : (g == f) = false := by simpa using h
    rw [if_neg h]; simp [List.lookup, e]
theorem pfl_house (h nw : Int) (o e : Addr) : (pfl h nw o e).lookup ("house" : Str) = some (.int h) := by unfold pfl; rw [look_cons, if_pos rfl]
theorem pfl_now (h nw : Int) (o e : Addr) : (pfl h nw o e).lookup ("now" : Str) = some (.int nw) := by unfold pfl; rw [look_cons, if_neg (Ne.symm f_hn), look_cons, if_pos rfl]
theorem pfl_owns (h nw : Int) (o e : Addr) : (pfl h nw o e).lookup ("owns" : Str) = some (.ref o) := by unfold pfl; rw [look_cons, if_neg (Ne.symm f_ho), look_cons, if_neg (Ne.symm f_no), look_cons, if_pos rfl]
theorem pfl_heres (h nw : Int) (o e : Addr) : (pfl h nw o e).lookup ("heres" : Str) = some (.ref e) := by
  unfold pfl; rw [look_cons, if_neg (Ne.symm f_hh), look_cons, if_neg (Ne.symm f_nh), look_cons, if_neg (Ne.symm f_oh), look_cons, if_pos rfl]
theorem pfl_no (h nw : Int) (o e : Addr) {m : Str} (h1 : ¬ m = "house") (h2 : ¬ m = "now") (h3 : ¬ m = "owns") (h4 : ¬ m = "heres") : (pfl h nw o e).lookup m = none := by
  unfold pfl; rw [look_cons, if_neg h1, look_cons, if_neg h2, look_cons, if_neg h3, look_cons, if_neg h4]; rfl
theorem pfl_put (h nw z : Int) (o e : Addr) : putF "now" (.int z) (pfl h nw o e) = pfl h z o e := by
  show (if ("house" : Str) = "now" then _ else (("house" : Str), V.int h) :: (if ("now" : Str) = "now" then (("now" : Str), V.int z) :: [(("owns" : Str), V.ref o), (("heres" : Str), V.ref e)] else _)) = pfl h z o e
  rw [if_neg f_hn, if_pos rfl]
  rfl
theorem pfl_len (h nw : Int) (o e : Addr) : (pfl h nw o e).length < 1000 := by show 4 < 1000; decide
structure PartAt (C : Addr) (H : Hp) (a : Addr) (q : PA) (h nw : Int) (ow he : Tb) : Prop where
  ob : H a = some (.ins C q.dx (pfl h nw q.o q.e))
  oo : H q.o = some (.dT (kt ow))
  ee : H q.e = some (.dT (kt he))
  ne : q.o ≠ q.e
theorem PartAt.ao {C : Addr} {H : Hp} {a : Addr} {q : PA} {h nw : Int} {ow he : Tb} (p : PartAt C H a q h nw ow he) : a ≠ q.o := ne_of p.ob p.oo (by intro z; cases z)
theorem PartAt.ae {C : Addr} {H : Hp} {a : Addr} {q : PA} {h nw : Int} {ow he : Tb} (p : PartAt C H a q h nw ow he) : a ≠ q.e := ne_of p.ob p.ee (by intro z; cases z)
theorem PartAt.same {C : Addr} {H H' : Hp} {a : Addr} {q : PA} {h nw : Int} {ow he : Tb} (p : PartAt C H a q h nw ow he) (s : Same H H') : PartAt C H' a q h nw ow he := ⟨s _ _ p.ob, s _ _ p.oo, s _ _ p.ee, p.ne⟩
theorem PartAt.ch {C : Addr} {F : Addr → Prop} {H H' : Hp} {a : Addr} {q : PA} {h nw : Int} {ow he : Tb} (p : PartAt C H a q h nw ow he) (s : Ch F H H') (h1 : ¬ F a) (h2 : ¬ F q.o) (h3 : ¬ F q.e) : PartAt C H' a q h nw ow he :=
  ⟨s.keep _ _ p.ob h1, s.keep _ _ p.oo h2, s.keep _ _ p.ee h3, p.ne⟩
theorem PartAt.setO {C : Addr} {H : Hp} {a : Addr} {q : PA} {h nw : Int} {ow he : Tb} (p : PartAt C H a q h nw ow he) (ow' : Tb) : PartAt C (upd H q.o (.dT (kt ow'))) a q h nw ow' he :=
  ⟨by rw [upd_ne p.ao]; exact p.ob, upd_same, by rw [upd_ne (Ne.symm p.ne)]; exact p.ee, p.ne⟩
theorem PartAt.setE {C : Addr} {H : Hp} {a : Addr} {q : PA} {h nw : Int} {ow he : Tb} (p : PartAt C H a q h nw ow he) (he' : Tb) : PartAt C (upd H q.e (.dT (kt he'))) a q h nw ow he' :=
  ⟨by rw [upd_ne p.ae]; exact p.ob, by rw [upd_ne p.ne]; exact p.oo, upd_same, p.ne⟩
theorem PartAt.chO {C : Addr} {H : Hp} {a : Addr} {q : PA} {h nw : Int} {ow he : Tb} (p : PartAt C H a q h nw ow he) {F : Addr → Prop} (hf : F q.o) (ob : HO) : Ch F H (upd H q.o ob) := Ch.upd hf p.oo (fun xs z => nomatch z)
theorem PartAt.chE {C : Addr} {H : Hp} {a : Addr} {q : PA} {h nw : Int} {ow he : Tb} (p : PartAt C H a q h nw ow he) {F : Addr → Prop} (hf : F q.e) (ob : HO) : Ch F H (upd H q.e ob) := Ch.upd hf p.ee (fun xs z => nomatch z)
/-- a name's lease by a part's tables -/
def leaseOf (h : Int) (ow he : Tb) (n : Nm) : Int := if n.1 = h then (lk ow n).getD (-1) else (lk he n).getD (-1)
end K48

/-! LeasePart's small methods -/
namespace K48
open PySem L2
section
variable {P : Program} {w : World} {K : PySem.W.Frag} {mg : Str → Option Value} {base : Heap}

theorem dI {i j : Int} : decide (V.int i = V.int j) = decide (i = j) := by
  by_cases h : i = j
  · rw [h]; simp
  · rw [decide_eq_false h]
    exact decide_eq_false fun e => h (V.int.inj e)
theorem pfl_make (h nw : Int) (o e : Addr) : putF "heres" (.ref e) (putF "owns" (.ref o) (putF "now" (.int nw) [("house", .int h)])) = pfl h nw o e := by
  have e1 : putF "now" (.int nw) [("house", .int h)] = ([("house", .int h), ("now", .int nw)] : List (Str × V)) := by
    show (if ("house" : Str) = "now" then _ else (("house" : Str), V.int h) :: [(("now" : Str), V.int nw)]) = _
    rw [if_neg f_hn]
  have e2 : putF "owns" (.ref o) [("house", .int h), ("now", .int nw)] = ([("house", .int h), ("now", .int nw), ("owns", .ref o)] : List (Str × V)) := by
    show (if ("house" : Str) = "owns" then _ else (("house" : Str), V.int h) :: (if ("now" : Str) = "owns" then _ else (("now" : Str), V.int nw) :: [(("owns" : Str), V.ref o)])) = _
    rw [if_neg f_ho, if_neg f_no]
  rw [e1, e2]
  show (if ("house" : Str) = "heres" then _ else (("house" : Str), V.int h) :: (if ("now" : Str) = "heres" then _ else (("now" : Str), V.int nw) :: (if ("owns" : Str) = "heres" then _ else (("owns" : Str), V.ref o) :: [(("heres" : Str), V.ref e)]))) = _
  rw [if_neg f_hh, if_neg f_nh, if_neg f_oh]
  rfl
theorem scPI : FnScope ["self", "house"] ["self", "house"] (defScope sPInit) := ⟨rfl, rfl, rfl, by decide +kernel, rfl, by decide +kernel, by decide +kernel⟩
def spPI (C : Addr) : Sp := fun vs H Q _ => ∃ (a dx : Addr) (h : Int), vs = [.ref a, .int h] ∧ H a = some (.ins C dx []) ∧ Q .non (upd H a (.ins C dx [("house", .int h)]))
theorem ok_pi (T : TX K mg) : FnOk P w K mg base CX0 1 T.aPI T.dPI ["self", "house"] (spPI T.C) := by
  refine T.FPI.ok scPI (fun vs H Q E h => ?_) (fun cdv A outer s H vs Q E hr h => ?_)
  · obtain ⟨a, dx, z, rfl, _⟩ := h
    rfl
  · obtain ⟨a, dx, z, rfl, ho, k⟩ := h
    refine ⟨_, pss_one (ps_fld (pv 0) (pv 1) rfl), ?_⟩
    exact ⟨_, rfl, _, rfl, a, T.C, dx, [], rfl, ho, T.cl, T.nHouse, (by show 0 < 1000; decide), k⟩
theorem bPI (T : TX K mg) : Binds K T.dPI ["self", "house"] [] := T.FPI.binds (ps := ["self", "house"]) fun _ _ _ _ _ _ us hl => match us, hl with | [_, _], _ => rfl

theorem scOwn : FnScope ["self", "name"] ["self", "name"] (defScope sIsOwn) := ⟨rfl, rfl, rfl, by decide +kernel, rfl, by decide +kernel, by decide +kernel⟩
def spOwn (C : Addr) : Sp := fun vs H Q _ => ∃ (a t dx : Addr) (n : Nm) (h nw : Int) (o e : Addr), vs = [.ref a, .ref t] ∧ H a = some (.ins C dx (pfl h nw o e)) ∧ NmT H t n ∧ Q (.bl (decide (n.1 = h))) H
theorem ok_own (T : TX K mg) : FnOk P w K mg base CX0 1 T.aOwn T.dOwn ["self", "name"] (spOwn T.C) := by
  refine T.FOwn.ok scOwn (fun vs H Q E h => ?_) (fun cdv A outer s H vs Q E hr h => ?_)
  · obtain ⟨a, t, dx, n, z, nw, o, e, rfl, _⟩ := h
    rfl
  · obtain ⟨a, t, dx, n, z, nw, o, e, rfl, ho, ht, k⟩ := h
    refine ⟨_, pss_one (ps_ret (pe_cmpR op_eq (pe_ix ix_tup (pv 1) pe_int (fun _ _ => rfl)) (pe_fld (pv 0) rfl) (nomark _))), ?_⟩
    refine ⟨_, rfl, t, _, _, _, rfl, rfl, SqT.of ht, atI_nat (j := 0) rfl, _, rfl, a, T.C, dx, _, _, rfl, ho, T.cl, T.nHouse, pfl_house _ _ _ _, rfl, ?_⟩
    show Q (.bl (decide (V.int n.1 = V.int z))) H
    rw [dI]
    exact k
theorem bOwn (T : TX K mg) : Binds K T.dOwn ["self", "name"] [] := T.FOwn.binds (ps := ["self", "name"]) fun _ _ _ _ _ _ us hl => match us, hl with | [_, _], _ => rfl

theorem scInit : FnScope ["self", "house"] ["self", "house"] (defScope sInit) := ⟨rfl, rfl, rfl, by decide +kernel, rfl, by decide +kernel, by decide +kernel⟩
def spInit (C : Addr) : Sp := fun vs H Q _ => ∃ (a dx : Addr) (h : Int), vs = [.ref a, .int h] ∧ H a = some (.ins C dx []) ∧ ∀ (H' : Hp) (q : PA), PartAt C H' a q h 0 [] [] → Ch (fun b => b = a) H H' → H q.o = none → H q.e = none → Q .non H'
theorem ok_init (T : TX K mg) : FnOk P w K mg base CX0 2 T.aInit T.dInit ["self", "house"] (spInit T.C) := by
  have GP : FnOk P w K mg base CX0 1 T.aPI T.dPI ["self", "house"] (spPI T.C) := ok_pi T
  refine T.FInit.ok scInit (fun vs H Q E h => ?_) (fun cdv A outer s H vs Q E hr h => ?_)
  · obtain ⟨a, dx, z, rfl, _⟩ := h
    rfl
  · obtain ⟨a, dx, z, rfl, ho, k⟩ := h
    refine ⟨_, pss_cons (ps_expr (pe_clsfn (pe_glob (v := .ref T.P) rfl T.gP rfl) T.rdP T.fnP GP hr (bPI T) .nil pass0 (pa_cons (pv 0) (pa_cons (pv 1) pa_nil))))
      (pss_cons (ps_fld (pv 0) pe_int rfl) (pss_cons (ps_fld (pv 0) pe_dnewT rfl) (pss_one (ps_fld (pv 0) pe_dnewT rfl)))), ?_⟩
    refine ⟨rfl, _, rfl, _, rfl, a, dx, z, rfl, ho, ?_⟩
    refine ⟨_, rfl, a, T.C, dx, _, rfl, upd_same, T.cl, T.nNow, (by show 1 < 1000; decide), ?_⟩
    intro d1 n1
    have a1 : a ≠ d1 := fun q => by rw [q, upd_same] at n1; cases n1
    have m1 : H d1 = none := by rw [upd_ne a1.symm, upd_ne a1.symm] at n1; exact n1
    refine ⟨_, rfl, a, T.C, dx, _, rfl, Eq.trans (upd_ne a1) upd_same, T.cl, T.nOwns, (by show 2 < 1000; decide), ?_⟩
    intro d2 n2
    have a2 : a ≠ d2 := fun q => by rw [q, upd_same] at n2; cases n2
    have d12 : d1 ≠ d2 := fun q => by rw [upd_ne a2.symm, q, upd_same] at n2; cases n2
    have m2 : H d2 = none := by rw [upd_ne a2.symm, upd_ne d12.symm, upd_ne a2.symm, upd_ne a2.symm] at n2; exact n2
    refine ⟨_, rfl, a, T.C, dx, _, rfl, Eq.trans (upd_ne a2) upd_same, T.cl, T.nHeres, (by show 3 < 1000; decide), ?_⟩
    refine k _ ⟨dx, d1, d2⟩ ⟨?_, ?_, ?_, d12⟩ ⟨fun b u e nb => ?_, fun b xs e => ?_, none_of_some fun b u e => ?_⟩ m1 m2
    · rw [upd_same, pfl_make]
    · show upd _ a _ d1 = _
      rw [upd_ne a1.symm, upd_ne d12, upd_ne a1.symm, upd_same]; rfl
    · show upd _ a _ d2 = _
      rw [upd_ne a2.symm, upd_same]; rfl
    · rw [upd_ne nb, upd_ne (ne_of_none e m2), upd_ne nb, upd_ne (ne_of_none e m1), upd_ne nb, upd_ne nb]; exact e
    · have nb : b ≠ a := ne_of e ho (by intro z; cases z)
      rw [upd_ne nb, upd_ne (ne_of_none e m2), upd_ne nb, upd_ne (ne_of_none e m1), upd_ne nb, upd_ne nb]; exact e
    · by_cases c : b = a
      · exact ⟨_, by rw [c]; exact upd_same⟩
      · exact ⟨u, by rw [upd_ne c, upd_ne (ne_of_none e m2), upd_ne c, upd_ne (ne_of_none e m1), upd_ne c, upd_ne c]; exact e⟩
theorem bInit (T : TX K mg) : Binds K T.dInit ["self", "house"] [] := T.FInit.binds (ps := ["self", "house"]) fun _ _ _ _ _ _ us hl => match us, hl with | [_, _], _ => rfl

theorem scLease : FnScope ["self", "name"] ["self", "name"] (defScope sLease) := ⟨rfl, rfl, rfl, by decide +kernel, rfl, by decide +kernel, by decide +kernel⟩
def spLease (C : Addr) : Sp := fun vs H Q _ => ∃ (a t : Addr) (n : Nm) (q : PA) (h nw : Int) (ow he : Tb), vs = [.ref a, .ref t] ∧ PartAt C H a q h nw ow he ∧ NmT H t n ∧ Q (.int (leaseOf h ow he n)) H
theorem getD_int (o : Option Int) (d : Int) : (o.map V.int).getD (.int d) = .int (o.getD d) := by cases o <;> rfl
theorem ok_lease (T : TX K mg) : FnOk P w K mg base CX0 2 T.aLease T.dLease ["self", "name"] (spLease T.C) := by
  have GO : FnOk P w K mg base CX0 1 T.aOwn T.dOwn ["self", "name"] (spOwn T.C) := ok_own T
  refine T.FLease.ok scLease (fun vs H Q E h => ?_) (fun cdv A outer s H vs Q E hr h => ?_)
  · obtain ⟨a, t, n, q, z, nw, ow, he, rfl, _⟩ := h
    rfl
  · obtain ⟨a, t, n, q, z, nw, ow, he, rfl, p, ht, k⟩ := h
    have hu := hu_of hr
    refine ⟨_, pss_cons (ps_if (pt_val (pe_meth (pv 0) T.cl T.mOwn GO hr (bOwn T) .nil pass0 (pa_cons (pv 1) pa_nil)))
        (pss_one (ps_ret (pe_dget2 hu (pe_fld (pv 0) rfl) (pv 1) (pe_un un_neg pe_int) ⟨rfl, rfl, rfl, rfl⟩))) pss_nil)
      (pss_one (ps_ret (pe_dget2 hu (pe_fld (pv 0) rfl) (pv 1) (pe_un un_neg pe_int) ⟨rfl, rfl, rfl, rfl⟩))), ?_⟩
    refine ⟨_, rfl, a, q.dx, _, rfl, p.ob, pfl_no _ _ _ _ (by decide +kernel) (by decide +kernel) (by decide +kernel) (by decide +kernel), _, rfl, a, t, q.dx, n, z, nw, q.o, q.e, rfl, p.ob, ht, _, rfl, ?_⟩
    refine ite2 (fun hb => ?_) (fun hb => ?_)
    · have hn : n.1 = z := of_decide_eq_true hb
      refine ⟨_, rfl, a, T.C, q.dx, _, _, rfl, p.ob, T.cl, T.nOwns, pfl_owns _ _ _ _, q.o, rfl, .inr ⟨_, .inl p.oo⟩, _, rfl, _, rfl, _, DGet.t (k := nk n) p.oo ht, ?_⟩
      rw [kt_lk, getD_int]
      have e1 : leaseOf z ow he n = (lk ow n).getD (-1) := if_pos hn
      rw [e1] at k
      exact k
    · have hn : ¬ n.1 = z := fun e => hb (decide_eq_true e)
      refine ⟨_, rfl, a, T.C, q.dx, _, _, rfl, p.ob, T.cl, T.nHeres, pfl_heres _ _ _ _, q.e, rfl, .inr ⟨_, .inl p.ee⟩, _, rfl, _, rfl, _, DGet.t (k := nk n) p.ee ht, ?_⟩
      rw [kt_lk, getD_int]
      have e1 : leaseOf z ow he n = (lk he n).getD (-1) := if_neg hn
      rw [e1] at k
      exact k
theorem bLease (T : TX K mg) : Binds K T.dLease ["self", "name"] [] := T.FLease.binds (ps := ["self", "name"]) fun _ _ _ _ _ _ us hl => match us, hl with | [_, _], _ => rfl
end
end K48

/-! LeasePart: lend, hand_on, got, is_held, knows, take, copied -/
namespace K48
open PySem L2
section
variable {P : Program} {w : World} {K : PySem.W.Frag} {mg : Str → Option Value} {base : Heap}
theorem no_meth {h nw : Int} {o e : Addr} {m : Str} (hm : decide (m = "house" ∨ m = "now" ∨ m = "owns" ∨ m = "heres") = false) : (pfl h nw o e).lookup m = none := by
  have q := of_decide_eq_false hm
  exact pfl_no _ _ _ _ (fun e => q (.inl e)) (fun e => q (.inr (.inl e))) (fun e => q (.inr (.inr (.inl e)))) (fun e => q (.inr (.inr (.inr e))))

theorem scLend : FnScope ["self", "name"] ["self", "name"] (defScope sLend) := ⟨rfl, rfl, rfl, by decide +kernel, rfl, by decide +kernel, by decide +kernel⟩
def spLend (C : Addr) : Sp := fun vs H Q _ => ∃ (a t : Addr) (n : Nm) (q : PA) (h nw : Int) (ow he : Tb), vs = [.ref a, .ref t] ∧ PartAt C H a q h nw ow he ∧ NmT H t n ∧ ow.length < 1000 ∧ Q (.int (nw + 8)) (upd H q.o (.dT (kt (ptb ow n (nw + 8)))))
theorem ok_lend (T : TX K mg) : FnOk P w K mg base CX0 1 T.aLend T.dLend ["self", "name"] (spLend T.C) := by
  obtain ⟨tk, hL⟩ := T.gLong
  refine T.FLend.ok scLend (fun vs H Q E h => ?_) (fun cdv A outer s H vs Q E hr h => ?_)
  · obtain ⟨a, t, n, q, z, nw, ow, he, rfl, _⟩ := h
    rfl
  · obtain ⟨a, t, n, q, z, nw, ow, he, rfl, p, ht, hl, k⟩ := h
    have hu := hu_of hr
    refine ⟨_, pss_cons (ps_dput hu (pe_fld (pv 0) rfl) (pv 1) (pe_op op_add (pe_fld (pv 0) rfl) (pe_glob (v := .int 8) rfl hL ⟨_, rfl⟩)) rfl)
      (pss_one (ps_ret (pe_dget hu (pe_fld (pv 0) rfl) (pv 1) (fun _ _ => rfl)))), ?_⟩
    refine ⟨_, rfl, a, T.C, q.dx, _, _, rfl, p.ob, T.cl, T.nNow, pfl_now _ _ _ _, _, _, rfl, rfl, _, rfl, a, T.C, q.dx, _, _, rfl, p.ob, T.cl, T.nOwns, pfl_owns _ _ _ _, _, rfl, q.o, _, rfl,
      DPut.t (k := nk n) p.oo ht (by rw [kt_len]; exact Nat.lt_of_lt_of_le hl (by decide)), ?_⟩
    rw [kt_put]
    have p' := p.setO (ptb ow n (nw + 8))
    have ht' : NmT (upd H q.o (.dT (kt (ptb ow n (nw + 8))))) t n := ht.ch (p.chO (F := fun b => b = q.o) rfl _)
    refine ⟨_, rfl, a, T.C, q.dx, _, _, rfl, p'.ob, T.cl, T.nOwns, pfl_owns _ _ _ _, _, rfl, q.o, .int (nw + 8), rfl, ?_, k⟩
    have g := DGet.t (k := nk n) p'.oo ht'
    rw [kt_lk, lk_put, if_pos rfl] at g
    exact g
theorem bLend (T : TX K mg) : Binds K T.dLend ["self", "name"] [] := T.FLend.binds (ps := ["self", "name"]) fun _ _ _ _ _ _ us hl => match us, hl with | [_, _], _ => rfl

theorem scHeld : FnScope ["self", "name"] ["self", "name"] (defScope sHeld) := ⟨rfl, rfl, rfl, by decide +kernel, rfl, by decide +kernel, by decide +kernel⟩
def spHeld (C : Addr) : Sp := fun vs H Q _ => ∃ (a t : Addr) (n : Nm) (q : PA) (h nw : Int) (ow he : Tb), vs = [.ref a, .ref t] ∧ PartAt C H a q h nw ow he ∧ NmT H t n ∧ Q (.bl (decide (nw ≤ leaseOf h ow he n))) H
theorem ok_held (T : TX K mg) : FnOk P w K mg base CX0 3 T.aHeld T.dHeld ["self", "name"] (spHeld T.C) := by
  have GL : FnOk P w K mg base CX0 2 T.aLease T.dLease ["self", "name"] (spLease T.C) := ok_lease T
  refine T.FHeld.ok scHeld (fun vs H Q E h => ?_) (fun cdv A outer s H vs Q E hr h => ?_)
  · obtain ⟨a, t, n, q, z, nw, ow, he, rfl, _⟩ := h
    rfl
  · obtain ⟨a, t, n, q, z, nw, ow, he, rfl, p, ht, k⟩ := h
    refine ⟨_, pss_one (ps_ret (pe_cmpR op_ge (pe_meth (pv 0) T.cl T.mLease GL hr (bLease T) .nil pass0 (pa_cons (pv 1) pa_nil)) (pe_fld (pv 0) rfl) (nomark _))), ?_⟩
    exact ⟨_, rfl, a, q.dx, _, rfl, p.ob, no_meth (by decide +kernel), _, rfl, a, t, n, q, z, nw, ow, he, rfl, p, ht, _, rfl, a, T.C, q.dx, _, _, rfl, p.ob, T.cl, T.nNow, pfl_now _ _ _ _, _, _, rfl, rfl, k⟩
theorem bHeld (T : TX K mg) : Binds K T.dHeld ["self", "name"] [] := T.FHeld.binds (ps := ["self", "name"]) fun _ _ _ _ _ _ us hl => match us, hl with | [_, _], _ => rfl

theorem scKnows : FnScope ["self", "name"] ["self", "name"] (defScope sKnows) := ⟨rfl, rfl, rfl, by decide +kernel, rfl, by decide +kernel, by decide +kernel⟩
def spKnows (C : Addr) : Sp := fun vs H Q _ => ∃ (a t : Addr) (n : Nm) (q : PA) (h nw : Int) (ow he : Tb), vs = [.ref a, .ref t] ∧ PartAt C H a q h nw ow he ∧ NmT H t n ∧ Q (.bl (lk he n).isSome) H
theorem ok_knows (T : TX K mg) : FnOk P w K mg base CX0 1 T.aKnows T.dKnows ["self", "name"] (spKnows T.C) := by
  refine T.FKnows.ok scKnows (fun vs H Q E h => ?_) (fun cdv A outer s H vs Q E hr h => ?_)
  · obtain ⟨a, t, n, q, z, nw, ow, he, rfl, _⟩ := h
    rfl
  · obtain ⟨a, t, n, q, z, nw, ow, he, rfl, p, ht, k⟩ := h
    have hu := hu_of hr
    refine ⟨_, pss_one (ps_ret (pe_cmp (pc_din hu (pv 1) (pe_fld (pv 0) rfl)))), ?_⟩
    have g := DGet.t (k := nk n) p.ee ht
    rw [kt_lk] at g
    refine ⟨_, rfl, _, rfl, a, T.C, q.dx, _, _, rfl, p.ob, T.cl, T.nHeres, pfl_heres _ _ _ _, q.e, _, rfl, g, ?_⟩
    rw [Option.isSome_map]
    exact k
theorem bKnows (T : TX K mg) : Binds K T.dKnows ["self", "name"] [] := T.FKnows.binds (ps := ["self", "name"]) fun _ _ _ _ _ _ us hl => match us, hl with | [_, _], _ => rfl

theorem scHandOn : FnScope ["self", "name", "to"] ["self", "name", "to"] (defScope sHandOn) := ⟨rfl, rfl, rfl, by decide +kernel, rfl, by decide +kernel, by decide +kernel⟩
def spHandOn (C : Addr) : Sp := fun vs H Q _ => ∃ (a t : Addr) (n : Nm) (q : PA) (h nw to : Int) (ow he : Tb), vs = [.ref a, .ref t, .int to] ∧ PartAt C H a q h nw ow he ∧ NmT H t n ∧ ow.length < 1000 ∧
  ∀ (H' : Hp) (p l : Addr) (ow' : Tb) (x : Int), PartAt C H' a q h nw ow' he → Ch (fun b => b = q.o) H H' → H p = none → H l = none → H' l = some (.lst []) → H' p = some (.tup [.int x, .ref l]) →
    (n.1 = h → x = nw + 8 ∧ ow' = ptb ow n (nw + 8)) → (n.1 ≠ h → x = (lk he n).getD (-1) ∧ ow' = ow) → Q (.ref p) H'
theorem ok_handon (T : TX K mg) : FnOk P w K mg base CX0 3 T.aHand T.dHand ["self", "name", "to"] (spHandOn T.C) := by
  have GO : FnOk P w K mg base CX0 1 T.aOwn T.dOwn ["self", "name"] (spOwn T.C) := ok_own T
  have GD : FnOk P w K mg base CX0 1 T.aLend T.dLend ["self", "name"] (spLend T.C) := ok_lend T
  have GL : FnOk P w K mg base CX0 2 T.aLease T.dLease ["self", "name"] (spLease T.C) := ok_lease T
  refine T.FHand.ok scHandOn (fun vs H Q E h => ?_) (fun cdv A outer s H vs Q E hr h => ?_)
  · obtain ⟨a, t, n, q, z, nw, to, ow, he, rfl, _⟩ := h
    rfl
  · obtain ⟨a, t, n, q, z, nw, to, ow, he, rfl, p, ht, hl, k⟩ := h
    have hr1 : Room 1 _ := hr.mono (by decide)
    refine ⟨_, pss_cons (ps_if (pt_val (pe_meth (pv 0) T.cl T.mOwn GO hr1 (bOwn T) .nil pass0 (pa_cons (pv 1) pa_nil)))
        (pss_one (ps_ret (pe_tup (pa_cons (pe_meth (pv 0) T.cl T.mLend GD hr1 (bLend T) .nil pass0 (pa_cons (pv 1) pa_nil)) (pa_cons (pe_lst pa_nil) pa_nil))))) pss_nil)
      (pss_one (ps_ret (pe_tup (pa_cons (pe_meth (pv 0) T.cl T.mLease GL hr (bLease T) .nil pass0 (pa_cons (pv 1) pa_nil)) (pa_cons (pe_lst pa_nil) pa_nil))))), ?_⟩
    refine ⟨_, rfl, a, q.dx, _, rfl, p.ob, no_meth (by decide +kernel), _, rfl, a, t, q.dx, n, z, nw, q.o, q.e, rfl, p.ob, ht, _, rfl, ?_⟩
    refine ite2 (fun hb => ?_) (fun hb => ?_)
    · have hn : n.1 = z := of_decide_eq_true hb
      refine ⟨_, rfl, a, q.dx, _, rfl, p.ob, no_meth (by decide +kernel), _, rfl, a, t, n, q, z, nw, ow, he, rfl, p, ht, hl, ?_⟩
      have p1 := p.setO (ptb ow n (nw + 8))
      have c1 := p.chO (F := fun b => b = q.o) rfl (.dT (kt (ptb ow n (nw + 8))))
      refine ⟨Nat.zero_le _, fun l nl => ⟨by show 2 ≤ sizeLine; decide, fun r nr => ?_⟩⟩
      have e2 : l ≠ r := fun e => by rw [← e, upd_same] at nr; cases nr
      have nr1 : upd H q.o (.dT (kt (ptb ow n (nw + 8)))) r = none := by rw [upd_ne e2.symm] at nr; exact nr
      have s1 := Same.new (o := .lst []) nl
      have s2 := Same.new (o := .tup [.int (nw + 8), .ref l]) nr
      refine k _ r l (ptb ow n (nw + 8)) (nw + 8) ((p1.same s1).same s2) ((c1.trans (.same s1)).trans (.same s2)) (c1.free nr1 fun e => ?_) (c1.free nl fun e => ?_) (by rw [upd_ne e2, upd_same]) upd_same (fun _ => ⟨rfl, rfl⟩) (fun c => absurd hn c)
      · rw [e, p1.oo] at nr1; cases nr1
      · rw [e, p1.oo] at nl; cases nl
    · have hn : ¬ n.1 = z := fun e => hb (decide_eq_true e)
      refine ⟨_, rfl, a, q.dx, _, rfl, p.ob, no_meth (by decide +kernel), _, rfl, a, t, n, q, z, nw, ow, he, rfl, p, ht, ?_⟩
      refine ⟨Nat.zero_le _, fun l nl => ⟨by show 2 ≤ sizeLine; decide, fun r nr => ?_⟩⟩
      have e2 : l ≠ r := fun e => by rw [← e, upd_same] at nr; cases nr
      have nr1 : H r = none := by rw [upd_ne e2.symm] at nr; exact nr
      have s1 := Same.new (o := .lst []) nl
      have s2 := Same.new (o := .tup [.int (leaseOf z ow he n), .ref l]) nr
      exact k _ r l ow _ ((p.same s1).same s2) ((Ch.same s1).trans (.same s2)) nr1 nl (by rw [upd_ne e2, upd_same]) upd_same (fun c => absurd c hn) (fun _ => ⟨if_neg hn, rfl⟩)
theorem bHandOn (T : TX K mg) : Binds K T.dHand ["self", "name", "to"] [] := T.FHand.binds (ps := ["self", "name", "to"]) fun _ _ _ _ _ _ us hl => match us, hl with | [_, _, _], _ => rfl

theorem scGot : FnScope ["self", "name", "extra"] ["self", "name", "extra"] (defScope sGot) := ⟨rfl, rfl, rfl, by decide +kernel, rfl, by decide +kernel, by decide +kernel⟩
def spGot (C : Addr) : Sp := fun vs H Q _ => ∃ (a t : Addr) (n : Nm) (q : PA) (h nw x : Int) (ow he : Tb), vs = [.ref a, .ref t, .int x] ∧ PartAt C H a q h nw ow he ∧ NmT H t n ∧ he.length < 1000 ∧
  ∀ (H' : Hp) (he' : Tb), PartAt C H' a q h nw ow he' → Ch (fun b => b = q.e) H H' → (n.1 = h → he' = he) → (n.1 ≠ h → he' = ptb he n (if x > (lk he n).getD (-1) then x else (lk he n).getD (-1))) → (∀ l, H l = none → H' l = none) → Q .non H'
theorem ok_got (T : TX K mg) : FnOk P w K mg base CX0 3 T.aGot T.dGot ["self", "name", "extra"] (spGot T.C) := by
  have GO : FnOk P w K mg base CX0 1 T.aOwn T.dOwn ["self", "name"] (spOwn T.C) := ok_own T
  have GL : FnOk P w K mg base CX0 2 T.aLease T.dLease ["self", "name"] (spLease T.C) := ok_lease T
  refine T.FGot.ok scGot (fun vs H Q E h => ?_) (fun cdv A outer s H vs Q E hr h => ?_)
  · obtain ⟨a, t, n, q, z, nw, x, ow, he, rfl, _⟩ := h
    rfl
  · obtain ⟨a, t, n, q, z, nw, x, ow, he, rfl, p, ht, hl, k⟩ := h
    have hu := hu_of hr
    have hr1 : Room 1 _ := hr.mono (by decide)
    refine ⟨_, pss_one (ps_if (pt_not (pt_val (pe_meth (pv 0) T.cl T.mOwn GO hr1 (bOwn T) .nil pass0 (pa_cons (pv 1) pa_nil))))
        (pss_one (ps_dput hu (pe_fld (pv 0) rfl) (pv 1) (pe_callB (call_max2 rfl) (by rfl) T.zMax (by decide +kernel) (pa_cons (pe_meth (pv 0) T.cl T.mLease GL hr (bLease T) .nil pass0 (pa_cons (pv 1) pa_nil)) (pa_cons (pv 2) pa_nil))) rfl)) pss_nil), ?_⟩
    refine ⟨_, rfl, a, q.dx, _, rfl, p.ob, no_meth (by decide +kernel), _, rfl, a, t, q.dx, n, z, nw, q.o, q.e, rfl, p.ob, ht, _, rfl, ?_⟩
    by_cases hn : n.1 = z
    · rw [decide_eq_true hn]
      refine iteF ?_
      exact k H he p (Ch.refl _ _) (fun _ => rfl) (fun c => absurd hn c) (fun _ e => e)
    · rw [decide_eq_false hn]
      refine iteT ?_
      refine ⟨_, rfl, a, q.dx, _, rfl, p.ob, no_meth (by decide +kernel), _, rfl, a, t, n, q, z, nw, ow, he, rfl, p, ht, _, rfl, _, _, rfl, ?_⟩
      refine ⟨_, rfl, a, T.C, q.dx, _, _, rfl, p.ob, T.cl, T.nHeres, pfl_heres _ _ _ _, _, rfl, q.e, _, rfl, DPut.t (k := nk n) p.ee ht (by rw [kt_len]; exact Nat.lt_of_lt_of_le hl (by decide)), ?_⟩
      rw [kt_put]
      have e1 : leaseOf z ow he n = (lk he n).getD (-1) := if_neg hn
      rw [e1]
      refine k _ _ (p.setE _) (p.chE (F := fun b => b = q.e) rfl _) (fun c => absurd c hn) (fun _ => rfl) fun l e => ?_
      rw [upd_ne (fun c => by rw [c, p.ee] at e; cases e)]
      exact e
theorem bGot (T : TX K mg) : Binds K T.dGot ["self", "name", "extra"] [] := T.FGot.binds (ps := ["self", "name", "extra"]) fun _ _ _ _ _ _ us hl => match us, hl with | [_, _, _], _ => rfl

theorem scTake : FnScope ["self", "sender", "body"] ["self", "sender", "body"] (defScope sTake) := ⟨rfl, rfl, rfl, by decide +kernel, rfl, by decide +kernel, by decide +kernel⟩
theorem s_lr : decide (V.str "lent" = V.str "renew") = false := by decide +kernel
def spTake (C : Addr) : Sp := fun vs H Q _ => ∃ (a b t : Addr) (n : Nm) (q : PA) (h nw sd : Int) (ow he : Tb), vs = [.ref a, .int sd, .ref b] ∧ PartAt C H a q h nw ow he ∧ NmT H t n ∧ he.length < 1000 ∧ ow.length < 1000 ∧
  ((H b = some (.tup [.str "renew", .ref t]) ∧ ∀ (H' : Hp) (l p r : Addr), PartAt C H' a q h nw (ptb ow n (nw + 8)) he → Ch (fun b => b = q.o) H H' → H l = none → H' l = some (.lst [.ref p]) → H' p = some (.tup [.int sd, .ref r]) →
      H' r = some (.tup [.str "lent", .ref t, .int (nw + 8)]) → Q (.ref l) H') ∨
   (∃ x : Int, H b = some (.tup [.str "lent", .ref t, .int x]) ∧ ((lk he n).isSome = true → n.1 ≠ h) ∧ ∀ (H' : Hp) (l : Addr) (he' : Tb), PartAt C H' a q h nw ow he' → Ch (fun b => b = q.e) H H' → H l = none → H' l = some (.lst []) →
      (lk he n = none → he' = he) → (∀ y, lk he n = some y → he' = ptb he n (if x > y then x else y)) → Q (.ref l) H'))
theorem ok_take (T : TX K mg) : FnOk P w K mg base CX0 4 T.aTake T.dTake ["self", "sender", "body"] (spTake T.C) := by
  have GD : FnOk P w K mg base CX0 1 T.aLend T.dLend ["self", "name"] (spLend T.C) := ok_lend T
  have GG : FnOk P w K mg base CX0 3 T.aGot T.dGot ["self", "name", "extra"] (spGot T.C) := ok_got T
  refine T.FTake.ok scTake (fun vs H Q E h => ?_) (fun cdv A outer s H vs Q E hr h => ?_)
  · obtain ⟨a, b, t, n, q, z, nw, sd, ow, he, rfl, _⟩ := h
    rfl
  · obtain ⟨a, b, t, n, q, z, nw, sd, ow, he, rfl, p, ht, hl, hlo, k⟩ := h
    have hu := hu_of hr
    have hr1 : Room 1 _ := hr.mono (by decide)
    refine ⟨_, pss_cons (ps_if (pt_cmpR op_eq (pe_ix ix_tup (pv 2) pe_int (fun _ _ => rfl)) pe_str (nomark _))
        (pss_one (ps_ret (pe_lst (pa_cons (pe_tup (pa_cons (pv 1) (pa_cons (pe_tup (pa_cons pe_str (pa_cons (pe_ix ix_tup (pv 2) pe_int (fun _ _ => rfl)) (pa_cons (pe_meth (pv 0) T.cl T.mLend GD hr1 (bLend T) .nil pass0 (pa_cons (pe_ix ix_tup (pv 2) pe_int (fun _ _ => rfl)) pa_nil)) pa_nil)))) pa_nil))) pa_nil)))) pss_nil)
      (pss_cons (ps_if (pt_cmp (pc_din hu (pe_ix ix_tup (pv 2) pe_int (fun _ _ => rfl)) (pe_fld (pv 0) rfl)))
        (pss_one (ps_expr (pe_meth (pv 0) T.cl T.mGot GG hr (bGot T) .nil pass0 (pa_cons (pe_ix ix_tup (pv 2) pe_int (fun _ _ => rfl)) (pa_cons (pe_ix ix_tup (pv 2) pe_int (fun _ _ => rfl)) pa_nil))))) pss_nil)
      (pss_one (ps_ret (pe_lst pa_nil)))), ?_⟩
    rcases k with ⟨hb, k⟩ | ⟨x, hb, hno, k⟩
    · refine ⟨_, rfl, b, _, _, _, rfl, rfl, SqT.of hb, atI_nat (j := 0) rfl, rfl, _, rfl, ?_⟩
      rw [decide_eq_true (show V.str "renew" = V.str "renew" from rfl)]
      refine iteT ?_
      refine ⟨_, rfl, _, rfl, b, _, _, _, rfl, rfl, SqT.of hb, atI_nat (j := 1) rfl, _, rfl, a, q.dx, _, rfl, p.ob, no_meth (by decide +kernel), _, rfl, b, _, _, _, rfl, rfl, SqT.of hb, atI_nat (j := 1) rfl, a, t, n, q, z, nw, ow, he, rfl, p, ht, hlo, ?_⟩
      have p1 := p.setO (ptb ow n (nw + 8))
      have c1 := p.chO (F := fun b => b = q.o) rfl (.dT (kt (ptb ow n (nw + 8))))
      refine ⟨by show 3 ≤ sizeLine; decide, fun r nr => ⟨by show 2 ≤ sizeLine; decide, fun u nu => ⟨by show 1 ≤ sizeLine; decide, fun l nl => ?_⟩⟩⟩
      have s1 := Same.new (o := .tup [.str "lent", .ref t, .int (nw + 8)]) nr
      have s2 := Same.new (o := .tup [.int sd, .ref r]) nu
      have s3 := Same.new (o := .lst [.ref u]) nl
      have c3 := (c1.trans (.same s1)).trans (.same s2)
      refine k _ l u r (((p1.same s1).same s2).same s3) (c3.trans (.same s3)) (c3.free nl fun e => ?_) upd_same (s3 _ _ upd_same) (s3 _ _ (s2 _ _ upd_same))
      have e1 := s2 _ _ (s1 _ _ p1.oo)
      rw [e, e1] at nl
      cases nl
    · refine ⟨_, rfl, b, _, _, _, rfl, rfl, SqT.of hb, atI_nat (j := 0) rfl, rfl, _, rfl, ?_⟩
      rw [s_lr]
      refine iteF ?_
      have g := DGet.t (k := nk n) p.ee ht
      rw [kt_lk] at g
      refine ⟨_, rfl, b, _, _, _, rfl, rfl, SqT.of hb, atI_nat (j := 1) rfl, _, rfl, a, T.C, q.dx, _, _, rfl, p.ob, T.cl, T.nHeres, pfl_heres _ _ _ _, q.e, _, rfl, g, _, rfl, ?_⟩
      rw [Option.isSome_map]
      cases e : lk he n with
      | none =>
        refine iteF ?_
        refine ⟨Nat.zero_le _, fun l nl => ?_⟩
        have s1 := Same.new (o := .lst []) nl
        exact k _ l he (p.same s1) (.same s1) nl upd_same (fun _ => rfl) (fun y c => by rw [e] at c; cases c)
      | some y =>
        refine iteT ?_
        have hn := hno (by rw [e]; rfl)
        refine ⟨_, rfl, a, q.dx, _, rfl, p.ob, no_meth (by decide +kernel), _, rfl, b, _, _, _, rfl, rfl, SqT.of hb, atI_nat (j := 1) rfl, _, rfl, b, _, _, _, rfl, rfl, SqT.of hb, atI_nat (j := 2) rfl, a, t, n, q, z, nw, x, ow, he, rfl, p, ht, hl, fun H' he' p' c' _ h2 _ => ?_⟩
        refine ⟨Nat.zero_le _, fun l nl => ?_⟩
        have s1 := Same.new (o := .lst []) nl
        refine k _ l he' (p'.same s1) (c'.trans (.same s1)) (c'.free nl fun c => ?_) upd_same (fun c => by rw [e] at c; cases c) (fun y' c => ?_)
        · rw [c, p'.ee] at nl; cases nl
        · rw [h2 hn]
          rw [e] at c
          cases c
          rw [e]
          rfl
theorem bTake (T : TX K mg) : Binds K T.dTake ["self", "sender", "body"] [] := T.FTake.binds (ps := ["self", "sender", "body"]) fun _ _ _ _ _ _ us hl => match us, hl with | [_, _, _], _ => rfl

theorem scCop : FnScope ["self", "other"] ["self"] (defScope sCopied) := ⟨rfl, rfl, rfl, by decide +kernel, rfl, by decide +kernel, by decide +kernel⟩
def spCop (C : Addr) : Sp := fun vs H Q _ => ∃ (a : Addr) (q : PA) (h nw : Int) (ow he : Tb), vs = [.ref a] ∧ PartAt C H a q h nw ow he ∧ ((kt ow).map fun p => hashP p.1).Nodup ∧ ((kt he).map fun p => hashP p.1).Nodup ∧
  ∀ (H' : Hp) (r : Addr) (q' : PA), PartAt C H' r q' h nw ow he → Same H H' → H r = none → H q'.o = none → H q'.e = none → Q (.ref r) H'
theorem ok_cop (T : TX K mg) : FnOk P w K mg base CX0 4 T.aCop T.dCop ["self"] (spCop T.C) := by
  have GI : FnOk P w K mg base CX0 2 T.aInit T.dInit ["self", "house"] (spInit T.C) := ok_init T
  refine T.FCop.ok scCop (fun vs H Q E h => ?_) (fun cdv A outer s H vs Q E hr h => ?_)
  · obtain ⟨a, q, z, nw, ow, he, rfl, _⟩ := h
    rfl
  · obtain ⟨a, q, z, nw, ow, he, rfl, p, ho, hh, k⟩ := h
    have hu := hu_of hr
    refine ⟨_, pss_cons (ps_set (i := 1) scCop.nd rfl (Or.inl rfl) (pe_make T.mkC GI hr rfl T.gC (bInit T) .nil pass0 (pa_cons (pe_fld (pv 0) rfl) pa_nil)))
      (pss_cons (ps_fld (pv 1) (pe_fld (pv 0) rfl) rfl)
      (pss_cons (ps_expr (pe_bm PySem.F.plainAttrs_dict PySem.F.slot_dict_update PySem.F.type_dict_update (mt_updT hu) (pe_fld (pv 1) rfl) (pa_cons (pe_fld (pv 0) rfl) pa_nil)))
      (pss_cons (ps_expr (pe_bm PySem.F.plainAttrs_dict PySem.F.slot_dict_update PySem.F.type_dict_update (mt_updT hu) (pe_fld (pv 1) rfl) (pa_cons (pe_fld (pv 0) rfl) pa_nil)))
      (pss_one (ps_ret (pv 1)))))), ?_⟩
    refine ⟨_, rfl, a, T.C, q.dx, _, _, rfl, p.ob, T.cl, T.nHouse, pfl_house _ _ _ _, ?_⟩
    intro x dx nx ndx nex
    refine ⟨x, dx, z, rfl, upd_same, fun H1 r p1 c1 no ne => ⟨rfl, ?_⟩⟩
    have s1 : Same H H1 := fun b u e => c1.keep b u (by rw [upd_ne (ne_of_none e nx), upd_ne (ne_of_none e ndx)]; exact e) (ne_of_none e nx)
    have back : ∀ {l : Addr}, upd (upd H dx (.own x)) x (.ins T.C dx []) l = none → H l = none := fun {l} e => by
      have n1 : l ≠ x := fun c => by rw [c, upd_same] at e; cases e
      rw [upd_ne n1] at e
      have n2 : l ≠ dx := fun c => by rw [c, upd_same] at e; cases e
      rw [upd_ne n2] at e
      exact e
    have mo := back no
    have me := back ne
    have pa := p.same s1
    have ax : a ≠ x := ne_of_none p.ob nx
    refine ⟨_, rfl, a, T.C, q.dx, _, _, rfl, pa.ob, T.cl, T.nNow, pfl_now _ _ _ _, _, rfl, x, T.C, r.dx, _, rfl, p1.ob, T.cl, T.nNow, pfl_len _ _ _ _, ?_⟩
    rw [pfl_put]
    -- the new part with the old one's time
    have p2 : PartAt T.C (upd H1 x (.ins T.C r.dx (pfl z nw r.o r.e))) x r z nw [] [] := ⟨upd_same, by rw [upd_ne (Ne.symm p1.ao)]; exact p1.oo, by rw [upd_ne (Ne.symm p1.ae)]; exact p1.ee, p1.ne⟩
    have s2 : Same H (upd H1 x (.ins T.C r.dx (pfl z nw r.o r.e))) := fun b u e => by rw [upd_ne (ne_of_none e nx)]; exact s1 b u e
    have pa2 := p.same s2
    have roo : r.o ≠ q.o := Ne.symm (ne_of_none p.oo mo)
    have reo : r.e ≠ q.e := Ne.symm (ne_of_none p.ee me)
    refine ⟨_, rfl, x, T.C, r.dx, _, _, rfl, p2.ob, T.cl, T.nOwns, pfl_owns _ _ _ _, .inr (.inr (.inl ⟨rfl, .inr ⟨_, p2.oo⟩⟩)), _, rfl, a, T.C, q.dx, _, _, rfl, pa2.ob, T.cl, T.nOwns, pfl_owns _ _ _ _, r.o, q.o, _, rfl, rfl, roo, p2.oo, pa2.oo, kt_pair, ho, ?_⟩
    have p3 := p2.setO ow
    have s3 : Same H (upd (upd H1 x (.ins T.C r.dx (pfl z nw r.o r.e))) r.o (.dT (kt ow))) := fun b u e => by rw [upd_ne (ne_of_none e mo)]; exact s2 b u e
    have pa3 := p.same s3
    refine ⟨_, rfl, x, T.C, r.dx, _, _, rfl, p3.ob, T.cl, T.nHeres, pfl_heres _ _ _ _, .inr (.inr (.inl ⟨rfl, .inr ⟨_, p3.ee⟩⟩)), _, rfl, a, T.C, q.dx, _, _, rfl, pa3.ob, T.cl, T.nHeres, pfl_heres _ _ _ _, r.e, q.e, _, rfl, rfl, reo, p3.ee, pa3.ee, kt_pair, hh, ?_⟩
    refine ⟨_, rfl, ?_⟩
    refine k _ x r (p3.setE he) (fun b u e => ?_) nx mo me
    rw [upd_ne (ne_of_none e me)]
    exact s3 b u e
theorem bCop (T : TX K mg) : Binds K T.dCop ["self"] [] := T.FCop.binds (ps := ["self"]) fun _ _ _ _ _ _ us hl => match us, hl with | [_], _ => rfl
end
end K48

/-! names as data; let_go, lapse -/
namespace K48
open PySem PySem.Spec PyProof.Rows L2
/-! ### names as data -/
def pD (n : Nm) : PyData := .tuple [.int n.1, .int n.2]
theorem pD_eqv (a b : Nm) : PyData.eqv (pD a) (pD b) = decide (a = b) := by
  have e : PyData.eqv (pD a) (pD b) = ((a.1 == b.1) && ((a.2 == b.2) && true)) := by simp only [pD, PyData.eqv, PyData.eqvAll]
  rw [e]
  by_cases h : a = b
  · rw [h]; simp
  · rw [decide_eq_false h]
    by_cases h1 : a.1 = b.1
    · have h2 : ¬ a.2 = b.2 := fun z => h (Prod.ext h1 z)
      simp [h2]
    · simp [h1]
theorem pD_any (n : Nm) : ∀ ns : List Nm, ((ns.map pD).any fun z => PyData.eqv z (pD n)) = decide (n ∈ ns)
  | [] => by simp
  | m :: r => by
    rw [List.map_cons, List.any_cons, pD_eqv, pD_any n r]
    by_cases h : m = n
    · subst h; simp
    · have h' : ¬ n = m := fun z => h z.symm
      simp [h, h']
theorem pD_lay (z : Nm) : (pD z).canLay0 = true := by simp [pD, PyData.canLay0, PyData.canLayAll0]
theorem pD_depth (z : Nm) : (pD z).depth ≤ 1 := by simp [pD, PyData.depth, PyData.depthAll]
theorem pDs_lay : ∀ zs : List Nm, PyData.canLayAll0 (zs.map pD) = true
  | [] => by simp [PyData.canLayAll0]
  | z :: zs => by simp [PyData.canLayAll0, pD_lay z, pDs_lay zs]
theorem pDs_depth : ∀ zs : List Nm, PyData.depthAll (zs.map pD) ≤ 1
  | [] => by simp [PyData.depthAll]
  | z :: zs => by
    have h1 := pDs_depth zs
    have h2 := pD_depth z
    simp only [List.map_cons, PyData.depthAll]
    omega
theorem pD_shaped (z : Nm) : SeqAt.shaped (pD z) = true := by
  have h := pD_depth z
  show ((pD z).canLay0 && decide ((pD z).depth ≤ 64)) = true
  rw [Bool.and_eq_true]
  exact ⟨pD_lay z, decide_eq_true (by omega)⟩
theorem pDs_shaped (zs : List Nm) : SeqAt.shaped (.list (zs.map pD)) = true := by
  have h1 := pDs_depth zs
  have h2 : PyData.depth (.list (zs.map pD)) ≤ 64 := by
    simp only [PyData.depth]
    omega
  show (PyData.canLay0 (.list (zs.map pD)) && decide (PyData.depth (.list (zs.map pD)) ≤ 64)) = true
  rw [Bool.and_eq_true]
  exact ⟨by simp only [PyData.canLay0]; exact pDs_lay zs, decide_eq_true h2⟩
theorem pDt_shaped (zs : List Nm) : SeqAt.shaped (.tuple (zs.map pD)) = true := by
  have h1 := pDs_depth zs
  have h2 : PyData.depth (.tuple (zs.map pD)) ≤ 64 := by
    simp only [PyData.depth]
    omega
  show (PyData.canLay0 (.tuple (zs.map pD)) && decide (PyData.depth (.tuple (zs.map pD)) ≤ 64)) = true
  rw [Bool.and_eq_true]
  exact ⟨by simp only [PyData.canLay0]; exact pDs_lay zs, decide_eq_true h2⟩
theorem dp_nm {K : PySem.W.Frag} {H : Hp} {t : Addr} {n : Nm} (h : NmT H t n) : Dp K H (.ref t) (pD n) := .tup (SqT.of h) (.cons (.int _) (.cons (.int _) .nil))
theorem dp_nms {K : PySem.W.Frag} {H : Hp} : ∀ {vs : List V} {ns : List Nm}, Paired (NmAt H) vs ns → DpAll K H vs (ns.map pD)
  | _, _, .nil => .nil
  | _, _, .cons (a := v) h t => by
    obtain ⟨t1, e, ht⟩ := h
    subst e
    exact .cons (dp_nm ht) (dp_nms t)
section
variable {X : Cx}
def rNotInT (K : PySem.W.Frag) : R2 := fun x y H Q => ∃ d ds, Dp K H x d ∧ Dp K H y (.tuple ds) ∧ SeqAt.shaped d = true ∧ SeqAt.shaped (.tuple ds) = true ∧ Q (.bl (!ds.any fun z => PyData.eqv z d)) H
theorem op_notInT (hu : X.A.units + 65 < cLine) : OpR X (compareOp .NotIn) (rNotInT X.K) := by
  intro pins s σ H x y v u Q I rx ry h
  obtain ⟨d, ds, hd, he, sd, se, q⟩ := h
  obtain ⟨as, r1⟩ := Dp.reads I d x v hd rx
  obtain ⟨bs, r2⟩ := Dp.reads I (.tuple ds) y u he ry
  exact SeqAt.notIn_tuple_reads r2 r1 (SeqAt.canLay_of_shaped se) (SeqAt.canLay_of_shaped sd) (room_in_shaped sd hu) ⟨.bl _, H, I, rfl, q⟩
end
theorem hu65 {A : Around} {k : Nat} (hr : Room k A) : A.units + 65 < cLine := by have := hr.un; omega
theorem hu64 {A : Around} {k : Nat} (hr : Room k A) : A.units + 64 < cLine := by have := hr.un; omega
/-! ### pairs of lists -/
theorem pair_get {α β : Type} {F : α → β → Prop} : ∀ {l₁ : List α} {l₂ : List β} {j : Nat} {y : β}, Paired F l₁ l₂ → l₂[j]? = some y → ∃ x, l₁[j]? = some x ∧ F x y
  | _, _, _, _, .nil, h => by simp at h
  | _, _, 0, y, .cons (a := x) f _, h => by
    simp only [List.getElem?_cons_zero] at h
    cases h
    exact ⟨x, rfl, f⟩
  | _, _, j + 1, y, .cons _ t, h => by
    simp only [List.getElem?_cons_succ] at h
    obtain ⟨x, h1, h2⟩ := pair_get (j := j) t h
    exact ⟨x, (by rw [List.getElem?_cons_succ]; exact h1), h2⟩
theorem pair_getL {α β : Type} {F : α → β → Prop} : ∀ {l₁ : List α} {l₂ : List β} {j : Nat} {x : α}, Paired F l₁ l₂ → l₁[j]? = some x → ∃ y, l₂[j]? = some y ∧ F x y
  | _, _, _, _, .nil, h => by simp at h
  | _, _, 0, x, .cons (b := y) f _, h => by
    simp only [List.getElem?_cons_zero] at h
    cases h
    exact ⟨y, rfl, f⟩
  | _, _, j + 1, x, .cons _ t, h => by
    simp only [List.getElem?_cons_succ] at h
    obtain ⟨y, h1, h2⟩ := pair_getL (j := j) t h
    exact ⟨y, (by rw [List.getElem?_cons_succ]; exact h1), h2⟩
theorem map_get {α β : Type} {f : α → β} {l : List α} {i : Nat} {y : β} (h : (l.map f)[i]? = some y) : ∃ x, l[i]? = some x ∧ y = f x := by
  rw [List.getElem?_map] at h
  cases e : l[i]? with
  | none => rw [e] at h; cases h
  | some x => rw [e] at h; exact ⟨x, rfl, (Option.some.inj h).symm⟩
theorem mem_take1 {α : Type} {l : List α} {i : Nat} {x m : α} (h : l[i]? = some x) : m ∈ l.take (i + 1) ↔ m ∈ l.take i ∨ m = x := by
  rw [List.take_add_one, h]
  simp
theorem not_mem_take {α : Type} {l : List α} (nd : l.Nodup) {i : Nat} {x : α} (h : l[i]? = some x) : ¬ x ∈ l.take i := fun m => by
  obtain ⟨j, hj⟩ := List.mem_iff_getElem?.mp m
  rw [List.getElem?_take] at hj
  split at hj
  · rename_i lt
    have := nd_ix nd hj h
    omega
  · cases hj
theorem pair_same {H H' : Hp} (c : Same H H') {vs : List V} {ns : List Nm} (p : Paired (NmAt H) vs ns) : Paired (NmAt H') vs ns := Paired.mapP p fun _ _ h => h.same c
theorem pair_ch {F : Addr → Prop} {H H' : Hp} (c : Ch F H H') {vs : List V} {ns : List Nm} (p : Paired (NmAt H) vs ns) : Paired (NmAt H') vs ns := Paired.mapP p fun _ _ h => h.ch c
theorem perm_keys {H : Hp} : ∀ {t : Tb} {bs : List Addr}, Paired (fun (p : Nm × Int) b => H b = some (.tup [.int p.1.1, .int p.1.2])) t bs → ∀ b ∈ bs, ∃ n, NmT H b n ∧ (lk t n).isSome = true
  | _, _, .nil, _, h => nomatch h
  | _, _, .cons (a := p) (b := c) (l₁ := t) (l₂ := bs) f r, b, h => by
    rcases List.mem_cons.mp h with e | h
    · subst e
      exact ⟨p.1, f, lk_of_mem (List.mem_cons_self ..)⟩
    · obtain ⟨n, h1, h2⟩ := perm_keys r b h
      refine ⟨n, h1, ?_⟩
      by_cases c : p.1 = n
      · rw [lk_pos c]; rfl
      · rw [lk_neg c]; exact h2

section
variable {P : Program} {w : World} {K : PySem.W.Frag} {mg : Str → Option Value} {base : Heap}
theorem scLet : FnScope ["self", "still", "name"] ["self", "still"] (defScope sLetGo) := ⟨rfl, rfl, rfl, by decide +kernel, rfl, by decide +kernel, by decide +kernel⟩
/-- a letter that wants a new lease of a name in the table -/
def RenLet (H : Hp) (he : Tb) (v : V) : Prop := ∃ (p r y : Addr) (n : Nm), v = .ref p ∧ H p = some (.tup [.int n.1, .ref r]) ∧ H r = some (.tup [.str "renew", .ref y]) ∧ NmT H y n ∧ (lk he n).isSome = true
theorem RenLet.ch {F : Addr → Prop} {H H' : Hp} {he : Tb} {v : V} (c : Ch F H H') (h : RenLet H he v) : RenLet H' he v := by
  obtain ⟨p, r, y, n, e, h1, h2, h3, h4⟩ := h
  exact ⟨p, r, y, n, e, c.tups _ _ h1, c.tups _ _ h2, h3.ch c, h4⟩
def spLet (C : Addr) : Sp := fun vs H Q _ => ∃ (a st : Addr) (xs : List V) (ns : List Nm) (q : PA) (h nw : Int) (ow he : Tb), vs = [.ref a, .ref st] ∧ PartAt C H a q h nw ow he ∧ H st = some (.tup xs) ∧ Paired (NmAt H) xs ns ∧ Nd he ∧ he.length < 1000 ∧
  ∀ (H' : Hp) (l : Addr) (ls : List V) (he' : Tb), PartAt C H' a q h nw ow he' → Ch (fun b => b = q.e) H H' → H l = none → H' l = some (.lst ls) → (∀ v ∈ ls, RenLet H' he' v) → ls.length ≤ he.length → Nd he' → he'.length ≤ he.length →
    (∀ n, lk he' n = if n ∈ ns then lk he n else none) → Q (.ref l) H'
theorem ok_letgo (T : TX K mg) : FnOk P w K mg base CX0 1 T.aLet T.dLet ["self", "still"] (spLet T.C) := by
  refine T.FLet.ok scLet (fun vs H Q E h => ?_) (fun cdv A outer s H vs Q E hr h => ?_)
  · obtain ⟨a, st, xs, ns, q, z, nw, ow, he, rfl, _⟩ := h
    rfl
  · obtain ⟨a, st, xs, ns, q, z, nw, ow, he, rfl, p, hst, hns, nd, hl, k⟩ := h
    have hu := hu_of hr
    have hu5 := hu65 hr
    refine ⟨_, pss_cons (ps_for PassesOwn.never rfl (pi_list (pe_callTy (call_list_dT rfl) (by rfl) T.zList (by decide +kernel) (pa_cons (pe_fld (pv 0) rfl) pa_nil))) (pg_name (i := 2) scLet.nd rfl (Or.inl rfl))
        (pss_one (ps_if (pt_cmpR (op_notInT hu5) (pv 2) (pv 1) (by rfl))
          (pss_one (ps_expr (pe_bm PySem.F.plainAttrs_dict PySem.F.slot_dict_pop PySem.F.type_dict_pop (mt_popT1 hu) (pe_fld (pv 0) rfl) (pa_cons (pv 2) pa_nil)))) pss_nil)))
      (pss_one (ps_ret (pe_lc (own := [("name", 2)]) (g := gName 2) (tt := tYes) rfl scLet.nd (pi_list (pe_callB (cr_sortedDT rfl) (by rfl) T.zSorted (by decide +kernel) (pa_cons (pe_fld (pv 0) rfl) pa_nil)))
        (blkOk_by (own := [("name", 2)]) (N := ["self", "still", "name"]) (sc := defScope sLetGo) (by decide +kernel)) (fun _ _ _ _ _ => pg_name (i := 2) scLet.nd rfl (Or.inl rfl)) (fun _ _ _ _ _ => pts_nil)
        (fun _ _ _ _ _ => pe_tup (pa_cons (pe_ix (r := rIxT K) ix_tup (pv 2) pe_int (fun _ _ => rfl)) (pa_cons (pe_tup (pa_cons pe_str (pa_cons (pv 2) pa_nil))) pa_nil)))))), ?_⟩
    refine ⟨_, rfl, a, T.C, q.dx, _, _, rfl, p.ob, T.cl, T.nHeres, pfl_heres _ _ _ _, q.e, kt he, rfl, .inl p.ee, fun L bs nL hk => ?_⟩
    have hbs := keys_addrs hk
    have s1 := Same.new (o := .lst (bs.map V.ref)) nL
    have lb : he.length = bs.length := Paired.length hbs
    have Lne : L ≠ q.e := fun c => by rw [c, p.ee] at nL; cases nL
    have fin : ∀ (n : Nm), n ∈ he.map (·.1) ∨ lk he n = none := fun n => by
      cases e : lk he n with
      | none => exact .inr rfl
      | some x => exact .inl (List.mem_map.mpr ⟨_, lk_mem e, rfl⟩)
    refine ⟨L, rfl, ⟨_, SqL.of upd_same⟩, for_list (K := K) (a := L) (xs := bs.map V.ref) (fun i σ H' => ∃ (hi : Tb) (v : Option V), σ = [some (.ref a), some (.ref st), v] ∧ PartAt T.C H' a q z nw ow hi ∧ Ch (fun b => b = q.e) (upd H L (.lst (bs.map V.ref))) H' ∧ Nd hi ∧
        hi.length ≤ he.length ∧ ∀ n, lk hi n = if n ∈ (he.map (·.1)).take i ∧ ¬ n ∈ ns then none else lk he n)
      ⟨he, none, rfl, p.same s1, Ch.refl _ _, nd, Nat.le_refl _, fun n => by rw [if_neg (by simp)]⟩ (fun i σ H' _ ⟨_, _, _, _, c, _⟩ => SqL.of (c.keep _ _ upd_same Lne)) ?_ ?_⟩
    · rintro i y σ H' hi ⟨t, v, rfl, p', c, nd', ll, hlk⟩
      obtain ⟨b, hb, rfl⟩ := map_get hi
      obtain ⟨⟨n, x⟩, hn, hbn⟩ := pair_get hbs hb
      have hbt : NmT H' b n := (show NmT H b n from hbn).same s1 |>.ch c
      have hkn : (he.map (·.1))[i]? = some n := by rw [List.getElem?_map, hn]; rfl
      have hmem : (n, x) ∈ he := List.mem_of_getElem? hn
      refine ⟨_, rfl, _, rfl, pD n, ns.map pD, dp_nm hbt, .tup (SqT.of (c.tups _ _ (s1 _ _ hst))) (dp_nms (pair_ch c (pair_same s1 hns))), pD_shaped n, pDt_shaped ns, _, rfl, ?_⟩
      rw [pD_any]
      by_cases hin : n ∈ ns
      · rw [decide_eq_true hin]
        refine iteF ?_
        refine ⟨t, _, rfl, p', c, nd', ll, fun m => ?_⟩
        rw [hlk]
        by_cases c1 : m ∈ (he.map (·.1)).take i ∧ ¬ m ∈ ns
        · rw [if_pos c1, if_pos ⟨(mem_take1 hkn).mpr (.inl c1.1), c1.2⟩]
        · rw [if_neg c1, if_neg fun c2 => ?_]
          rcases (mem_take1 hkn).mp c2.1 with c3 | c3
          · exact c1 ⟨c3, c2.2⟩
          · exact c2.2 (by rw [c3]; exact hin)
      · rw [decide_eq_false hin]
        refine iteT ?_
        have hv : lk t n = lk he n := by rw [hlk, if_neg fun c1 => not_mem_take nd hkn c1.1]
        obtain ⟨y, hy⟩ := Option.isSome_iff_exists.mp (lk_of_mem hmem)
        have hv2 : valV (kt t) (nk n) = some (.int y) := by rw [kt_lk, hv, hy]; rfl
        refine ⟨_, rfl, a, T.C, q.dx, _, _, rfl, p'.ob, T.cl, T.nHeres, pfl_heres _ _ _ _, .inr (.inr (.inl ⟨rfl, .inr ⟨_, p'.ee⟩⟩)), _, rfl, q.e, kt t, nk n, b, .int y, rfl, rfl, p'.ee, hbt, hv2, ?_⟩
        rw [kt_drop]
        refine ⟨drt t n, _, rfl, p'.setE _, c.trans (p'.chE (F := fun b => b = q.e) rfl _), nd'.drt n, Nat.le_trans (drt_len t n) ll, fun m => ?_⟩
        rw [lk_drt, hlk]
        by_cases c1 : m = n
        · rw [if_pos c1, if_pos ⟨(mem_take1 hkn).mpr (.inr c1), by rw [c1]; exact hin⟩]
        · rw [if_neg c1]
          by_cases c2 : m ∈ (he.map (·.1)).take i ∧ ¬ m ∈ ns
          · rw [if_pos c2, if_pos ⟨(mem_take1 hkn).mpr (.inl c2.1), c2.2⟩]
          · rw [if_neg c2, if_neg fun c3 => ?_]
            rcases (mem_take1 hkn).mp c3.1 with c4 | c4
            · exact c2 ⟨c4, c3.2⟩
            · exact c1 c4
    · rintro σ H' ⟨t, v, rfl, p', c, nd', ll, hlk⟩
      have hlk' : ∀ n, lk t n = if n ∈ ns then lk he n else none := fun n => by
        rw [hlk, List.length_map, ← lb]
        rw [show (he.map (·.1)).take he.length = he.map (·.1) from List.take_of_length_le (by rw [List.length_map]; exact Nat.le_refl _)]
        by_cases c1 : n ∈ ns
        · rw [if_pos c1, if_neg fun c2 => c2.2 c1]
        · rw [if_neg c1]
          rcases fin n with c2 | c2
          · rw [if_pos ⟨c2, c1⟩]
          · rw [c2]; split <;> rfl
      have cH : Ch (fun b => b = q.e) H H' := (Ch.same s1).trans c
      refine ⟨_, rfl, a, T.C, q.dx, _, _, rfl, p'.ob, T.cl, T.nHeres, pfl_heres _ _ _ _, q.e, kt t, rfl, .inl p'.ee, kt_pair, fun M bs' ys nM hk' hp => ?_⟩
      have hbs' := keys_addrs hk'
      have ly : ys.length = t.length := by rw [hp.length_eq]; exact (Paired.length hbs').symm
      have s2 := Same.new (o := .lst (ys.map V.ref)) nM
      refine ⟨M, rfl, ⟨_, SqL.of upd_same⟩, fun D nD => ?_⟩
      have DM : M ≠ D := fun c => by rw [← c, upd_same] at nD; cases nD
      have nD' : H' D = none := by rw [upd_ne DM.symm] at nD; exact nD
      refine lc_list (K := K) (a := M) (xs := ys.map V.ref) (fun i H2 => ∃ acc, H2 D = some (.lst acc) ∧ acc.length ≤ i ∧ (∀ v ∈ acc, RenLet H2 t v) ∧ Same (upd H' M (.lst (ys.map V.ref))) H2)
        ⟨[], upd_same, Nat.le_refl _, (fun _ hv => nomatch hv), Same.new nD⟩ (fun i H2 _ ⟨_, _, _, _, s⟩ => SqL.of (s _ _ upd_same)) ?_ ?_
      · rintro i x H2 hi ⟨acc, hD, hal, hacc, s⟩
        obtain ⟨b, hb, rfl⟩ := map_get hi
        have hi' : i < ys.length := (List.getElem?_eq_some_iff.mp hb).1
        obtain ⟨n, hn, hsm⟩ := perm_keys hbs' b (hp.mem_iff.mp (List.mem_of_getElem? hb))
        have hbn : NmT H2 b n := (hn.same s2).same s
        refine ⟨rfl, ?_⟩
        refine ⟨_, rfl, b, _, _, _, rfl, rfl, SqT.of hbn, atI_nat (j := 0) rfl, _, rfl, by show 2 ≤ sizeLine; decide, fun r nr => ⟨by show 2 ≤ sizeLine; decide, fun u nu => ?_⟩⟩
        have s3 := Same.new (o := .tup [.str "renew", .ref b]) nr
        have s4 := Same.new (o := .tup [.int n.1, .ref r]) nu
        have sD := s4 _ _ (s3 _ _ hD)
        refine ⟨acc, sD, by rw [sizeLine_eq]; omega, acc ++ [.ref u], upd_same, by rw [List.length_append]; exact Nat.succ_le_succ hal, ?_, fun b' o' e' => ?_⟩
        · have cD := Ch.upd (F := fun b => b = D) (o := .lst (acc ++ [.ref u])) rfl sD (fun xs z => nomatch z)
          intro v hv
          rcases List.mem_append.mp hv with hv | hv
          · exact ((hacc v hv).ch ((Ch.same (F := fun b => b = D) s3).trans (.same s4))).ch cD
          · rcases List.mem_singleton.mp hv with rfl
            exact ⟨u, r, b, n, rfl, cD.tups _ _ upd_same, cD.tups _ _ (s4 _ _ upd_same), ((hbn.same s3).same s4).ch cD, hsm⟩
        · have nb : b' ≠ D := fun c => by rw [c, nD] at e'; cases e'
          rw [upd_ne nb]
          exact s4 _ _ (s3 _ _ (s _ _ e'))
      · rintro H2 ⟨acc, hD, hal, hacc, s⟩
        have sHH : Same H' H2 := fun b o e => s _ _ (s2 _ _ e)
        refine k H2 D acc t (p'.same sHH) (cH.trans (.same sHH)) (cH.free nD' fun c => by rw [c, p'.ee] at nD'; cases nD') hD hacc ?_ nd' ll hlk'
        rw [List.length_map] at hal
        omega
theorem bLet (T : TX K mg) : Binds K T.dLet ["self", "still"] [] := T.FLet.binds (ps := ["self", "still"]) fun _ _ _ _ _ _ us hl => match us, hl with | [_, _], _ => rfl
end
end K48

/-! lapse -/
namespace K48
open PySem PySem.Spec PyProof.Rows L2
/-- the keys' tuples in another order -/
theorem pair_perm {R : Nm × Int → Addr → Prop} {t : Tb} {bs ys : List Addr} (h : Paired R t bs) (hp : ys.Perm bs) : ∃ t' : Tb, t'.Perm t ∧ Paired R t' ys := by
  have zs : ∀ {t : Tb} {bs : List Addr}, Paired R t bs → ∃ l : List ((Nm × Int) × Addr), l.map (·.1) = t ∧ l.map (·.2) = bs ∧ ∀ p ∈ l, R p.1 p.2 := by
    intro t bs h
    induction h with
    | nil => exact ⟨[], rfl, rfl, fun _ h => nomatch h⟩
    | @cons a b as bs f _ ih =>
      obtain ⟨l, e1, e2, e3⟩ := ih
      exact ⟨(a, b) :: l, by rw [List.map_cons, e1], by rw [List.map_cons, e2], fun p hp => by
        rcases List.mem_cons.mp hp with e | hp
        · rw [e]; exact f
        · exact e3 p hp⟩
  obtain ⟨l, e1, e2, e3⟩ := zs h
  obtain ⟨l', p1, p2⟩ := perm_lift (·.2) hp l e2
  have back : ∀ l : List ((Nm × Int) × Addr), (∀ p ∈ l, R p.1 p.2) → Paired R (l.map (·.1)) (l.map (·.2)) := by
    intro l
    induction l with
    | nil => exact fun _ => .nil
    | cons p r ih => exact fun h => .cons (h p (List.mem_cons_self ..)) (ih fun q hq => h q (List.mem_cons_of_mem _ hq))
  refine ⟨l'.map (·.1), by rw [← e1]; exact p1.map _, ?_⟩
  rw [← p2]
  exact back l' fun p hp => e3 p (p1.mem_iff.mp hp)
theorem lk_mem_nd : ∀ {t : Tb} {n : Nm} {x : Int}, Nd t → (n, x) ∈ t → lk t n = some x
  | q :: r, n, x, nd, h => by
    have nd' : (q.1 :: r.map (·.1)).Nodup := nd
    obtain ⟨h1, h2⟩ := List.nodup_cons.mp nd'
    rcases List.mem_cons.mp h with e | h
    · rw [← e]
      exact lk_pos rfl
    · rw [lk_neg fun e => h1 (List.mem_map.mpr ⟨_, h, e.symm⟩)]
      exact lk_mem_nd h2 h
section
variable {P : Program} {w : World} {K : PySem.W.Frag} {mg : Str → Option Value} {base : Heap}
theorem scLapse : FnScope ["self", "now", "name", "gone"] ["self", "now"] (defScope sLapse) := ⟨rfl, rfl, rfl, by decide +kernel, rfl, by decide +kernel, by decide +kernel⟩
def spLapse (C : Addr) : Sp := fun vs H Q _ => ∃ (a : Addr) (q : PA) (h nw now : Int) (ow he : Tb), vs = [.ref a, .int now] ∧ PartAt C H a q h nw ow he ∧ Nd he ∧ he.length < 1000 ∧
  ∀ (H' : Hp) (g : Addr) (gs : List V) (ns : List Nm) (he' : Tb), PartAt C H' a q h now ow he' → Ch (fun b => b = a ∨ b = q.e) H H' → H' g = some (.tup gs) → Paired (NmAt H') gs ns → (∀ n, n ∈ ns ↔ ∃ x, lk he n = some x ∧ x < now) → Nd he' → he'.length ≤ he.length →
    (∀ n, lk he' n = if n ∈ ns then none else lk he n) → Q (.ref g) H'
theorem ok_lapse (T : TX K mg) : FnOk P w K mg base CX0 1 T.aLapse T.dLapse ["self", "now"] (spLapse T.C) := by
  refine T.FLapse.ok scLapse (fun vs H Q E h => ?_) (fun cdv A outer s H vs Q E hr h => ?_)
  · obtain ⟨a, q, z, nw, now, ow, he, rfl, _⟩ := h
    rfl
  · obtain ⟨a, q, z, nw, now, ow, he, rfl, p, nd, hl, k⟩ := h
    have hu := hu_of hr
    refine ⟨_, pss_cons (ps_fld (pv 0) (pv 1) rfl)
      (pss_cons (ps_set (i := 3) scLapse.nd rfl (Or.inl rfl) (pe_callTy call_tuple_of (by rfl) T.zTuple (by decide +kernel) (pa_cons
        (pe_lc (own := [("name", 2)]) (g := gName 2) (tt := tTest (tOp (rI0 fun i j => .bl (decide (i < j))) (tDGet (tFld K (tVar 0) "heres") (tVar 2)) (tVar 1))) rfl scLapse.nd
          (pi_list (pe_callB (cr_sortedDT rfl) (by rfl) T.zSorted (by decide +kernel) (pa_cons (pe_fld (pv 0) rfl) pa_nil)))
          (blkOk_by (own := [("name", 2)]) (N := ["self", "now", "name", "gone"]) (sc := defScope sLapse) (by decide +kernel)) (fun _ _ _ _ _ => pg_name (i := 2) scLapse.nd rfl (Or.inl rfl))
          (fun _ _ _ _ _ => pts_one (pt_cmpR op_lt (pe_dget hu (show PE _ _ (tFld K (tVar 0) "heres") from pe_fld (pv 0) rfl) (pv 2) (fun _ _ => rfl)) (pv 1) (nomark _)))
          (fun _ _ _ _ _ => pv 2)) pa_nil)))
      (pss_cons (ps_for PassesOwn.never rfl (pi_tup (pv 3)) (pg_name (i := 2) scLapse.nd rfl (Or.inl rfl))
        (pss_one (ps_expr (pe_bm PySem.F.plainAttrs_dict PySem.F.slot_dict_pop PySem.F.type_dict_pop (mt_popT1 hu) (pe_fld (pv 0) rfl) (pa_cons (pv 2) pa_nil)))))
      (pss_one (ps_ret (pv 3))))), ?_⟩
    have p1 : PartAt T.C (upd H a (.ins T.C q.dx (pfl z now q.o q.e))) a q z now ow he := ⟨upd_same, by rw [upd_ne p.ao.symm]; exact p.oo, by rw [upd_ne p.ae.symm]; exact p.ee, p.ne⟩
    have c1 : Ch (fun b => b = a ∨ b = q.e) H (upd H a (.ins T.C q.dx (pfl z now q.o q.e))) := Ch.upd (.inl rfl) p.ob (fun xs z => nomatch z)
    refine ⟨_, rfl, _, rfl, a, T.C, q.dx, _, rfl, p.ob, T.cl, T.nNow, pfl_len _ _ _ _, ?_⟩
    rw [pfl_put]
    refine ⟨_, rfl, a, T.C, q.dx, _, _, rfl, p1.ob, T.cl, T.nHeres, pfl_heres _ _ _ _, q.e, kt he, rfl, .inl p1.ee, kt_pair, fun M bs ys nM hk hp => ?_⟩
    have hbs := keys_addrs hk
    obtain ⟨t', pt', hty⟩ := pair_perm hbs hp
    have nd2 : (t'.map (·.1)).Nodup := (pt'.map (fun p : Nm × Int => p.1)).nodup_iff.mpr (show (he.map fun p : Nm × Int => p.1).Nodup from nd)
    generalize hH1 : upd H a (.ins T.C q.dx (pfl z now q.o q.e)) = H1 at p1 c1 nM hk hbs hty
    have s2 := Same.new (o := .lst (ys.map V.ref)) nM
    refine ⟨M, rfl, ⟨_, SqL.of upd_same⟩, fun D nD => ?_⟩
    have DM : M ≠ D := fun c => by rw [← c, upd_same] at nD; cases nD
    have nD' : H1 D = none := by rw [upd_ne DM.symm] at nD; exact nD
    have ly : ys.length = t'.length := (Paired.length hty).symm
    have lt : t'.length = he.length := pt'.length_eq
    refine lc_list (K := K) (a := M) (xs := ys.map V.ref) (fun i H2 => ∃ acc, H2 D = some (.lst acc) ∧ Paired (NmAt H2) acc (((t'.take i).filter fun p => decide (p.2 < now)).map (·.1)) ∧ Same (upd H1 M (.lst (ys.map V.ref))) H2)
      ⟨[], upd_same, .nil, Same.new nD⟩ (fun i H2 _ ⟨_, _, _, s⟩ => SqL.of (s _ _ upd_same)) ?_ ?_
    · rintro i x H2 hi ⟨acc, hD, hacc, s⟩
      obtain ⟨b, hb, rfl⟩ := map_get hi
      have hi' : i < ys.length := (List.getElem?_eq_some_iff.mp hb).1
      obtain ⟨⟨n, x⟩, hn, hbn⟩ := pair_get hty hb
      have hbn2 : NmT H2 b n := (NmT.same s2 hbn).same s
      have p2 := (p1.same s2).same s
      have hlk : lk he n = some x := lk_mem_nd nd (pt'.mem_iff.mp (List.mem_of_getElem? hn))
      have g := DGet.t (k := nk n) p2.ee hbn2
      rw [kt_lk, hlk] at g
      have la : acc.length ≤ i := by
        rw [Paired.length hacc, List.length_map]
        exact Nat.le_trans (List.length_filter_le _ _) (by rw [List.length_take]; omega)
      have tk : t'.take (i + 1) = t'.take i ++ [(n, x)] := by rw [List.take_add_one, hn]; rfl
      refine ⟨rfl, _, rfl, a, T.C, q.dx, _, _, rfl, p2.ob, T.cl, T.nHeres, pfl_heres _ _ _ _, _, rfl, q.e, _, rfl, g, _, rfl, _, _, rfl, rfl, _, rfl, ?_⟩
      by_cases hx : x < now
      · rw [decide_eq_true hx]
        refine iteT ?_
        refine ⟨_, rfl, acc, hD, by rw [sizeLine_eq]; omega, acc ++ [.ref b], upd_same, ?_, fun b' o' e' => ?_⟩
        · rw [tk, List.filter_append, List.map_append]
          have cD := Ch.upd (F := fun b => b = D) (o := .lst (acc ++ [.ref b])) rfl hD (fun xs z => nomatch z)
          have e1 : ([(n, x)] : Tb).filter (fun p => decide (p.2 < now)) = [(n, x)] := by simp [hx]
          rw [e1]
          exact Paired.snoc (pair_ch cD hacc) ⟨b, rfl, hbn2.ch cD⟩
        · have nb : b' ≠ D := fun c => by rw [c, nD] at e'; cases e'
          rw [upd_ne nb]
          exact s _ _ e'
      · rw [decide_eq_false hx]
        refine iteF ?_
        refine ⟨acc, hD, ?_, s⟩
        rw [tk, List.filter_append]
        have e1 : ([(n, x)] : Tb).filter (fun p => decide (p.2 < now)) = [] := by simp [hx]
        rw [e1, List.append_nil]
        exact hacc
    · rintro H2 ⟨acc, hD, hacc, s⟩
      have e0 : t'.take (ys.map V.ref).length = t' := List.take_of_length_le (by rw [List.length_map]; omega)
      rw [e0] at hacc
      generalize hns : (t'.filter fun p => decide (p.2 < now)).map (·.1) = ns at hacc
      have ndn : ns.Nodup := by rw [← hns]; exact List.Nodup.sublist (List.Sublist.map _ List.filter_sublist) nd2
      have hmem : ∀ n, n ∈ ns ↔ ∃ x, lk he n = some x ∧ x < now := by
        intro n
        rw [← hns, List.mem_map]
        constructor
        · rintro ⟨⟨m, x⟩, hm, rfl⟩
          obtain ⟨h1, h2⟩ := List.mem_filter.mp hm
          exact ⟨x, lk_mem_nd nd (pt'.mem_iff.mp h1), of_decide_eq_true h2⟩
        · rintro ⟨x, h1, h2⟩
          exact ⟨(n, x), List.mem_filter.mpr ⟨pt'.mem_iff.mpr (lk_mem h1), decide_eq_true h2⟩, rfl⟩
      refine ⟨D, acc, rfl, .inl ⟨SqL.of hD, fun g ng => ?_⟩⟩
      have s3 := Same.new (o := .tup acc) ng
      have sA : Same H1 (upd H2 g (.tup acc)) := (s2.trans s).trans s3
      have p3 := p1.same sA
      have hacc3 := pair_same s3 hacc
      refine ⟨_, rfl, g, rfl, ⟨_, SqT.of upd_same⟩, for_tup (K := K) (a := g) (xs := acc) (fun i σ H' => ∃ (hi : Tb) (v : Option V), σ = [some (.ref a), some (.int now), v, some (.ref g)] ∧ PartAt T.C H' a q z now ow hi ∧ Ch (fun b => b = q.e) (upd H2 g (.tup acc)) H' ∧ Nd hi ∧
          hi.length ≤ he.length ∧ ∀ n, lk hi n = if n ∈ ns.take i then none else lk he n)
        ⟨he, none, rfl, p3, Ch.refl _ _, nd, Nat.le_refl _, fun n => by rw [if_neg (by simp)]⟩ (fun i σ H' _ ⟨_, _, _, _, c, _⟩ => SqT.of (c.tups _ _ upd_same)) ?_ ?_⟩
      · rintro i y σ H' hi ⟨t, v, rfl, p', c, nd', ll, hlk⟩
        obtain ⟨n, hn, b, rfl, hbn⟩ := pair_getL hacc3 hi
        have hbt : NmT H' b n := hbn.ch c
        obtain ⟨x, hx, _⟩ := (hmem n).mp (List.mem_of_getElem? hn)
        have hv : valV (kt t) (nk n) = some (.int x) := by rw [kt_lk, hlk, if_neg (not_mem_take ndn hn), hx]; rfl
        refine ⟨_, rfl, a, T.C, q.dx, _, _, rfl, p'.ob, T.cl, T.nHeres, pfl_heres _ _ _ _, .inr (.inr (.inl ⟨rfl, .inr ⟨_, p'.ee⟩⟩)), _, rfl, q.e, kt t, nk n, b, .int x, rfl, rfl, p'.ee, hbt, hv, ?_⟩
        rw [kt_drop]
        refine ⟨drt t n, _, rfl, p'.setE _, c.trans (p'.chE (F := fun b => b = q.e) rfl _), nd'.drt n, Nat.le_trans (drt_len t n) ll, fun m => ?_⟩
        rw [lk_drt, hlk]
        by_cases c1 : m = n
        · rw [if_pos c1, if_pos ((mem_take1 hn).mpr (.inr c1))]
        · rw [if_neg c1]
          by_cases c2 : m ∈ ns.take i
          · rw [if_pos c2, if_pos ((mem_take1 hn).mpr (.inl c2))]
          · rw [if_neg c2, if_neg fun c3 => ((mem_take1 hn).mp c3).elim c2 c1]
      · rintro σ H' ⟨t, v, rfl, p', c, nd', ll, hlk⟩
        refine ⟨_, rfl, ?_⟩
        refine k H' g acc ns t p' ((c1.trans (.same sA)).trans (c.mono fun b e => .inr e)) (c.tups _ _ upd_same) (pair_ch c hacc3) hmem nd' ll fun n => ?_
        rw [hlk, show ns.take acc.length = ns from List.take_of_length_le (by rw [Paired.length hacc3]; exact Nat.le_refl _)]
theorem bLapse (T : TX K mg) : Binds K T.dLapse ["self", "now"] [] := T.FLapse.binds (ps := ["self", "now"]) fun _ _ _ _ _ _ us hl => match us, hl with | [_, _], _ => rfl
end
end K48

/-! the web as it stands; the invariant -/
namespace K48
open PySem PySem.Spec PyProof.Rows L2
/-! ### functions changed at a place -/
def fup {α : Type} (f : Nat → α) (i : Nat) (v : α) : Nat → α := fun j => if j = i then v else f j
theorem fup_same {α : Type} {f : Nat → α} {i : Nat} {v : α} : fup f i v i = v := if_pos rfl
theorem fup_ne {α : Type} {f : Nat → α} {i j : Nat} {v : α} (h : j ≠ i) : fup f i v j = f j := if_neg h
def fup2 {α : Type} (f : Nat → Nat → α) (s t : Nat) (v : α) : Nat → Nat → α := fun i j => if i = s ∧ j = t then v else f i j
theorem fup2_same {α : Type} {f : Nat → Nat → α} {s t : Nat} {v : α} : fup2 f s t v s t = v := if_pos ⟨rfl, rfl⟩
theorem fup2_ne {α : Type} {f : Nat → Nat → α} {s t i j : Nat} {v : α} (h : ¬ (i = s ∧ j = t)) : fup2 f s t v i j = f i j := if_neg h
/-! ### the web -/
structure Wd where
  n : Nat
  now : Int
  w : Addr
  aP : Addr
  aY : Addr
  aB : Addr
  pa : Nat → Addr
  pq : Nat → PA
  ba : Nat → Addr
  ya : Nat → Nat → Addr
  pn : Nat → Int
  ow : Nat → Tb
  he : Nat → Tb
  hs : Nat → List V
  hn : Nat → List Nm
  ys : Nat → Nat → List V
  kw : List (Key × V)
  kh : List (Key × V)
  ky : List (List Key × V)
  pl : List V
inductive Loc where
  | web | prt | way | has | pa (i : Nat) | po (i : Nat) | pe (i : Nat) | ba (i : Nat) | ya (s t : Nat)
  deriving DecidableEq
def Wd.adr (g : Wd) : Loc → Addr
  | .web => g.w
  | .prt => g.aP
  | .way => g.aY
  | .has => g.aB
  | .pa i => g.pa i
  | .po i => (g.pq i).o
  | .pe i => (g.pq i).e
  | .ba i => g.ba i
  | .ya s t => g.ya s t
def Wd.dom (g : Wd) : Loc → Prop
  | .web => True
  | .prt => True
  | .way => True
  | .has => True
  | .pa i => i < g.n
  | .po i => i < g.n
  | .pe i => i < g.n
  | .ba i => i < g.n
  | .ya s t => s < g.n ∧ t < g.n ∧ s ≠ t
def Wd.cont (C : Addr) (g : Wd) : Loc → HO
  | .web => .dK g.kw
  | .prt => .lst g.pl
  | .way => .dT g.ky
  | .has => .dK g.kh
  | .pa i => .ins C (g.pq i).dx (pfl i (g.pn i) (g.pq i).o (g.pq i).e)
  | .po i => .dT (kt (g.ow i))
  | .pe i => .dT (kt (g.he i))
  | .ba i => .lst (g.hs i)
  | .ya s t => .lst (g.ys s t)
def Wd.own (g : Wd) (b : Addr) : Prop := ∃ l, g.dom l ∧ b = g.adr l
theorem Wd.own_of {g : Wd} (l : Loc) (h : g.dom l) : g.own (g.adr l) := ⟨l, h, rfl⟩
structure Cells (C : Addr) (H : Hp) (g : Wd) : Prop where
  cell : ∀ l, g.dom l → H (g.adr l) = some (g.cont C l)
  inj : ∀ l l', g.dom l → g.dom l' → g.adr l = g.adr l' → l = l'
theorem cont_tup (C : Addr) (g : Wd) (l : Loc) : ∀ xs, g.cont C l ≠ .tup xs := fun xs z => by cases l <;> cases z
structure Tabs (g : Wd) : Prop where
  kwN : valV g.kw (.inr "now") = some (.int g.now)
  kwP : valV g.kw (.inr "parts") = some (.ref g.aP)
  kwY : valV g.kw (.inr "ways") = some (.ref g.aY)
  kwH : valV g.kw (.inr "has") = some (.ref g.aB)
  kh : ∀ i : Nat, i < g.n → valV g.kh (.inl (i : Int)) = some (.ref (g.ba i))
  ky : ∀ s t : Nat, s < g.n → t < g.n → s ≠ t → valV g.ky [.inl (s : Int), .inl (t : Int)] = some (.ref (g.ya s t))
  kyk : ∀ p ∈ g.ky, ∃ s t : Nat, s < g.n ∧ t < g.n ∧ s ≠ t ∧ p.1 = [.inl (s : Int), .inl (t : Int)]
  lw : g.kw.length < 100
  lh : g.kh.length < 100
  ly : g.ky.length < 100
  n2 : 2 ≤ g.n
  n4 : g.n ≤ 4
/-- the list of the parts, the parts' times -/
structure Link (g : Wd) : Prop where
  pl : g.pl = (List.range g.n).map fun i => V.ref (g.pa i)
  pn : ∀ i, i < g.n → g.pn i = g.now
/-! ### what holds of the leases -/
def Lf (ow : Nat → Tb) (m : Nm) : Int := (lk (ow m.1.toNat) m).getD (-1)
def Valid (n : Nat) (m : Nm) : Prop := ∃ h : Nat, h < n ∧ (m = ((h : Int), 3 * (h : Int) + 1) ∨ m = ((h : Int), 10 + (h : Int)))
theorem Valid.home {n : Nat} {m : Nm} (v : Valid n m) : ∃ h : Nat, h < n ∧ m.1 = (h : Int) := by
  obtain ⟨h, hl, e | e⟩ := v <;> exact ⟨h, hl, by rw [e]⟩
def LetOk (H : Hp) (n : Nat) (ow : Nat → Tb) (t : Nat) (v : V) : Prop := ∃ (q y : Addr) (m : Nm), v = .ref q ∧ Valid n m ∧ NmT H y m ∧
  ((∃ x : Int, (H q = some (.tup [.str "hand", .ref y, .int x]) ∨ H q = some (.tup [.str "lent", .ref y, .int x])) ∧ x ≤ Lf ow m) ∨ (H q = some (.tup [.str "renew", .ref y]) ∧ m.1 = (t : Int)))
structure GoodP (n : Nat) (now : Int) (ow he : Nat → Tb) (hn : Nat → List Nm) : Prop where
  now0 : 0 ≤ now
  hv : ∀ i, i < n → ∀ m ∈ hn i, Valid n m
  hown : ∀ i : Nat, i < n → ((i : Int), 3 * (i : Int) + 1) ∈ hn i
  kn : ∀ i : Nat, i < n → ∀ m : Nm, m.1 ≠ (i : Int) → ((lk (he i) m).isSome = true ↔ m ∈ hn i)
  ko : ∀ i : Nat, i < n → ∀ m : Nm, (lk (he i) m).isSome = true → m.1 ≠ (i : Int) ∧ Valid n m
  ov : ∀ i : Nat, i < n → ∀ m : Nm, (lk (ow i) m).isSome = true → Valid n m
  ndo : ∀ i, i < n → Nd (ow i)
  ndh : ∀ i, i < n → Nd (he i)
  le : ∀ i, i < n → ∀ m x, lk (he i) m = some x → x ≤ Lf ow m
  l8 : ∀ m, Valid n m → Lf ow m ≤ now + 8
  lm : ∀ m, Valid n m → -1 ≤ Lf ow m
structure GoodH (H : Hp) (n : Nat) (ow : Nat → Tb) (hs : Nat → List V) (hn : Nat → List Nm) (ys : Nat → Nat → List V) : Prop where
  hsn : ∀ i, i < n → Paired (NmAt H) (hs i) (hn i)
  ls : ∀ s t, s < n → t < n → s ≠ t → ∀ v ∈ ys s t, LetOk H n ow t v
structure Lens (g : Wd) (k : Nat) : Prop where
  lo : ∀ i, i < g.n → (g.ow i).length ≤ k
  lh : ∀ i, i < g.n → (g.he i).length ≤ k
  lhs : ∀ i, i < g.n → (g.hs i).length ≤ 2 + k
  lys : ∀ s t, (g.ys s t).length ≤ 100 * k
/-- the web and its parts stand -/
structure Wb (C : Addr) (H : Hp) (g : Wd) : Prop where
  c : Cells C H g
  t : Tabs g
/-- .. and all is well -/
structure Wk (C : Addr) (H : Hp) (g : Wd) : Prop where
  b : Wb C H g
  p : GoodP g.n g.now g.ow g.he g.hn
  h : GoodH H g.n g.ow g.hs g.hn g.ys
structure WIn (C : Addr) (H : Hp) (g : Wd) (k : Nat) : Prop where
  wk : Wk C H g
  lk : Link g
  ln : Lens g k
/-- from one web to a later one -/
structure Chw (g g' : Wd) (H H' : Hp) : Prop where
  ch : Ch g.own H H'
  n : g'.n = g.n
  w : g'.w = g.w
  adr : ∀ l, g'.dom l → g'.adr l = g.adr l ∨ H (g'.adr l) = none
theorem dom_of {g g' : Wd} (h : g'.n = g.n) {l : Loc} (d : g'.dom l) : g.dom l := by cases l <;> (simp only [Wd.dom, h] at d ⊢ <;> exact d)
theorem Chw.refl (g : Wd) (H : Hp) : Chw g g H H := ⟨Ch.refl _ _, rfl, rfl, fun _ _ => .inl rfl⟩
theorem Chw.trans {g g1 g2 : Wd} {H H1 H2 : Hp} (a : Chw g g1 H H1) (b : Chw g1 g2 H1 H2) : Chw g g2 H H2 := by
  have own : ∀ {x u}, H x = some u → ¬ g.own x → ¬ g1.own x := fun {x u} e no ⟨l, d, q⟩ => by
    rcases a.adr l d with z | z
    · exact no ⟨l, dom_of a.n d, q.trans z⟩
    · rw [← q, e] at z; cases z
  refine ⟨⟨fun x u e no => b.ch.keep x u (a.ch.keep x u e no) (own e no), fun x xs e => b.ch.tups x xs (a.ch.tups x xs e), fun x e => a.ch.more x (b.ch.more x e)⟩, b.n.trans a.n, b.w.trans a.w, fun l d => ?_⟩
  have d1 := dom_of b.n d
  rcases b.adr l d with z | z
  · rw [z]
    exact a.adr l d1
  · exact .inr (a.ch.more _ z)
theorem LetOk.ch {F : Addr → Prop} {H H' : Hp} {n : Nat} {ow : Nat → Tb} {t : Nat} {v : V} (c : Ch F H H') (h : LetOk H n ow t v) : LetOk H' n ow t v := by
  obtain ⟨q, y, m, e, hv, hy, h⟩ := h
  refine ⟨q, y, m, e, hv, hy.ch c, ?_⟩
  rcases h with ⟨x, h, hx⟩ | ⟨h, hx⟩
  · exact .inl ⟨x, h.imp (c.tups _ _) (c.tups _ _), hx⟩
  · exact .inr ⟨c.tups _ _ h, hx⟩
theorem LetOk.same {H H' : Hp} {n : Nat} {ow : Nat → Tb} {t : Nat} {v : V} (s : Same H H') (h : LetOk H n ow t v) : LetOk H' n ow t v := h.ch (Ch.same (F := fun _ => False) s)
theorem LetOk.up {H : Hp} {n : Nat} {ow ow' : Nat → Tb} {t : Nat} {v : V} (hL : ∀ m, Valid n m → Lf ow m ≤ Lf ow' m) (h : LetOk H n ow t v) : LetOk H n ow' t v := by
  obtain ⟨q, y, m, e, hv, hy, h⟩ := h
  refine ⟨q, y, m, e, hv, hy, ?_⟩
  rcases h with ⟨x, h, hx⟩ | h
  · exact .inl ⟨x, h, Int.le_trans hx (hL m hv)⟩
  · exact .inr h
theorem GoodH.ch {F : Addr → Prop} {H H' : Hp} {n : Nat} {ow : Nat → Tb} {hs : Nat → List V} {hn : Nat → List Nm} {ys : Nat → Nat → List V} (c : Ch F H H') (h : GoodH H n ow hs hn ys) : GoodH H' n ow hs hn ys :=
  ⟨fun i hi => pair_ch c (h.hsn i hi), fun s t hs ht hst v hv => (h.ls s t hs ht hst v hv).ch c⟩
theorem GoodH.up {H : Hp} {n : Nat} {ow ow' : Nat → Tb} {hs : Nat → List V} {hn : Nat → List Nm} {ys : Nat → Nat → List V} (hL : ∀ m, Valid n m → Lf ow m ≤ Lf ow' m) (h : GoodH H n ow hs hn ys) : GoodH H n ow' hs hn ys :=
  ⟨h.hsn, fun s t hs ht hst v hv => (h.ls s t hs ht hst v hv).up hL⟩
theorem Cells.same {C : Addr} {H H' : Hp} {g : Wd} (c : Cells C H g) (s : Same H H') : Cells C H' g := ⟨fun l d => s _ _ (c.cell l d), c.inj⟩
theorem Wb.same {C : Addr} {H H' : Hp} {g : Wd} (c : Wb C H g) (s : Same H H') : Wb C H' g := ⟨c.c.same s, c.t⟩
theorem Wk.same {C : Addr} {H H' : Hp} {g : Wd} (c : Wk C H g) (s : Same H H') : Wk C H' g := ⟨c.b.same s, c.p, c.h.ch (Ch.same (F := fun _ => False) s)⟩
theorem WIn.same {C : Addr} {H H' : Hp} {g : Wd} {k : Nat} (c : WIn C H g k) (s : Same H H') : WIn C H' g k := ⟨c.wk.same s, c.lk, c.ln⟩
theorem Chw.same {g : Wd} {H H' : Hp} (s : Same H H') : Chw g g H H' := ⟨.same s, rfl, rfl, fun _ _ => .inl rfl⟩
/-- what the web doesn't own stays -/
theorem Chw.stay {g g' : Wd} {H H' : Hp} (c : Chw g g' H H') {b : Addr} {u : HO} (h : H b = some u) (n : ¬ g.own b) : H' b = some u ∧ ¬ g'.own b := by
  refine ⟨c.ch.keep b u h n, fun ⟨l, d, q⟩ => ?_⟩
  rcases c.adr l d with z | z
  · exact n ⟨l, dom_of c.n d, q.trans z⟩
  · rw [← q, h] at z; cases z
theorem Cells.not_own {C : Addr} {H : Hp} {g : Wd} (c : Cells C H g) {b : Addr} (h : H b = none) : ¬ g.own b := fun ⟨l, d, q⟩ => by rw [q, c.cell l d] at h; cases h
theorem Cells.not_tup {C : Addr} {H : Hp} {g : Wd} (c : Cells C H g) {b : Addr} {xs : List V} (h : H b = some (.tup xs)) : ¬ g.own b := fun ⟨l, d, q⟩ => by
  rw [q, c.cell l d] at h
  exact cont_tup C g l xs (Option.some.inj h)
/-- one cell changed -/
theorem Cells.one {C : Addr} {H : Hp} {g g' : Wd} (c : Cells C H g) (l0 : Loc) (d0 : g.dom l0) {o : HO} (hn : g'.n = g.n) (ha : ∀ l, g'.adr l = g.adr l) (hc : ∀ l, g.dom l → l ≠ l0 → g'.cont C l = g.cont C l) (ho : o = g'.cont C l0) :
    Cells C (upd H (g.adr l0) o) g' := by
  refine ⟨fun l d => ?_, fun l l' d d' e => ?_⟩
  · have d1 := dom_of hn d
    rw [ha]
    by_cases e : l = l0
    · rw [e, upd_same, ho]
    · rw [upd_ne fun q => e (c.inj _ _ d1 d0 q), c.cell l d1, hc l d1 e]
  · rw [ha, ha] at e
    exact c.inj _ _ (dom_of hn d) (dom_of hn d') e
theorem Cells.oneCh {C : Addr} {H : Hp} {g : Wd} (c : Cells C H g) (l0 : Loc) (d0 : g.dom l0) (o : HO) : Ch g.own H (upd H (g.adr l0) o) := Ch.upd (Wd.own_of l0 d0) (c.cell l0 d0) (cont_tup C g l0)
section
variable {C : Addr} {H : Hp} {g : Wd}
theorem Wb.gN (k : Wb C H g) : DGet H g.w (V.str "now") (some (.int g.now)) := by have h := DGet.k (k := Sum.inr "now") (k.c.cell .web True.intro); rw [k.t.kwN] at h; exact h
theorem Wb.gP (k : Wb C H g) : DGet H g.w (V.str "parts") (some (.ref g.aP)) := by have h := DGet.k (k := Sum.inr "parts") (k.c.cell .web True.intro); rw [k.t.kwP] at h; exact h
theorem Wb.gY (k : Wb C H g) : DGet H g.w (V.str "ways") (some (.ref g.aY)) := by have h := DGet.k (k := Sum.inr "ways") (k.c.cell .web True.intro); rw [k.t.kwY] at h; exact h
theorem Wb.gH (k : Wb C H g) : DGet H g.w (V.str "has") (some (.ref g.aB)) := by have h := DGet.k (k := Sum.inr "has") (k.c.cell .web True.intro); rw [k.t.kwH] at h; exact h
theorem Wb.gB (k : Wb C H g) {i : Nat} (hi : i < g.n) : DGet H g.aB (V.int (i : Int)) (some (.ref (g.ba i))) := by have h := DGet.k (k := Sum.inl (i : Int)) (k.c.cell .has True.intro); rw [k.t.kh i hi] at h; exact h
theorem Wb.gYa (k : Wb C H g) {s t : Nat} (hs : s < g.n) (ht : t < g.n) (hst : s ≠ t) {b : Addr} (hb : H b = some (.tup [.int (s : Int), .int (t : Int)])) : DGet H g.aY (V.ref b) (some (.ref (g.ya s t))) := by
  have h := DGet.t (k := [Sum.inl (s : Int), Sum.inl (t : Int)]) (k.c.cell .way True.intro) hb
  rw [k.t.ky s t hs ht hst] at h
  exact h
theorem Wb.lB (k : Wb C H g) {i : Nat} (hi : i < g.n) : H (g.ba i) = some (.lst (g.hs i)) := k.c.cell (.ba i) hi
theorem Wb.lY (k : Wb C H g) {s t : Nat} (hs : s < g.n) (ht : t < g.n) (hst : s ≠ t) : H (g.ya s t) = some (.lst (g.ys s t)) := k.c.cell (.ya s t) ⟨hs, ht, hst⟩
theorem Wb.lP (k : Wb C H g) (lk : Link g) : H g.aP = some (.lst ((List.range g.n).map fun i => V.ref (g.pa i))) := by have h := k.c.cell .prt True.intro; rw [← lk.pl]; exact h
theorem range_at {n i : Nat} {f : Nat → V} (hi : i < n) : ((List.range n).map f)[i]? = some (f i) := by rw [List.getElem?_map, List.getElem?_range hi]; rfl
theorem Cells.part (c : Cells C H g) {i : Nat} (hi : i < g.n) : PartAt C H (g.pa i) (g.pq i) i (g.pn i) (g.ow i) (g.he i) :=
  ⟨c.cell (.pa i) hi, c.cell (.po i) hi, c.cell (.pe i) hi, fun e => nomatch c.inj (.po i) (.pe i) hi hi e⟩
/-- a part changed -/
theorem Cells.setPart {H' : Hp} (c : Cells C H g) {i : Nat} (hi : i < g.n) {nw : Int} {ow he : Tb} {F : Addr → Prop} (hF : ∀ b, F b → b = g.pa i ∨ b = (g.pq i).o ∨ b = (g.pq i).e) (ch : Ch F H H') (p : PartAt C H' (g.pa i) (g.pq i) i nw ow he) :
    Cells C H' { g with pn := fup g.pn i nw, ow := fup g.ow i ow, he := fup g.he i he } := by
  refine ⟨fun l d => ?_, fun l l' d d' e => c.inj l l' (by cases l <;> exact d) (by cases l' <;> exact d') (by cases l <;> cases l' <;> exact e)⟩
  have d1 : g.dom l := by cases l <;> exact d
  have k : l ≠ .pa i → l ≠ .po i → l ≠ .pe i → H' (g.adr l) = some (g.cont C l) := fun h1 h2 h3 => ch.keep _ _ (c.cell l d1) fun f => by
    rcases hF _ f with e | e | e
    · exact h1 (c.inj l (.pa i) d1 hi e)
    · exact h2 (c.inj l (.po i) d1 hi e)
    · exact h3 (c.inj l (.pe i) d1 hi e)
  cases l with
  | web => exact k (by intro z; cases z) (by intro z; cases z) (by intro z; cases z)
  | prt => exact k (by intro z; cases z) (by intro z; cases z) (by intro z; cases z)
  | way => exact k (by intro z; cases z) (by intro z; cases z) (by intro z; cases z)
  | has => exact k (by intro z; cases z) (by intro z; cases z) (by intro z; cases z)
  | ba j => exact k (by intro z; cases z) (by intro z; cases z) (by intro z; cases z)
  | ya s t => exact k (by intro z; cases z) (by intro z; cases z) (by intro z; cases z)
  | pa j =>
    show H' (g.pa j) = some (.ins C (g.pq j).dx (pfl j (fup g.pn i nw j) (g.pq j).o (g.pq j).e))
    by_cases e : j = i
    · subst e
      rw [fup_same]
      exact p.ob
    · rw [fup_ne e]
      exact k (by intro z; injection z with z; exact e z) (by intro z; cases z) (by intro z; cases z)
  | po j =>
    show H' (g.pq j).o = some (.dT (kt (fup g.ow i ow j)))
    by_cases e : j = i
    · subst e
      rw [fup_same]
      exact p.oo
    · rw [fup_ne e]
      exact k (by intro z; cases z) (by intro z; injection z with z; exact e z) (by intro z; cases z)
  | pe j =>
    show H' (g.pq j).e = some (.dT (kt (fup g.he i he j)))
    by_cases e : j = i
    · subst e
      rw [fup_same]
      exact p.ee
    · rw [fup_ne e]
      exact k (by intro z; cases z) (by intro z; cases z) (by intro z; injection z with z; exact e z)
theorem Wd.chPart {H' : Hp} {i : Nat} (hi : i < g.n) {F : Addr → Prop} (hF : ∀ b, F b → b = g.pa i ∨ b = (g.pq i).o ∨ b = (g.pq i).e) (ch : Ch F H H') : Ch g.own H H' := ch.mono fun b f => by
  rcases hF b f with e | e | e
  · exact ⟨.pa i, hi, e⟩
  · exact ⟨.po i, hi, e⟩
  · exact ⟨.pe i, hi, e⟩
/-- a letter pushed -/
theorem Wk.push (k : Wk C H g) {s t : Nat} (hs : s < g.n) (ht : t < g.n) (hst : s ≠ t) {v : V} (hv : LetOk H g.n g.ow t v) : Wk C (upd H (g.ya s t) (.lst (g.ys s t ++ [v]))) { g with ys := fup2 g.ys s t (g.ys s t ++ [v]) } ∧
    Chw g { g with ys := fup2 g.ys s t (g.ys s t ++ [v]) } H (upd H (g.ya s t) (.lst (g.ys s t ++ [v]))) := by
  have d0 : g.dom (.ya s t) := ⟨hs, ht, hst⟩
  have ch := k.b.c.oneCh (.ya s t) d0 (.lst (g.ys s t ++ [v]))
  refine ⟨⟨⟨k.b.c.one (.ya s t) d0 rfl (fun l => by cases l <;> rfl) (fun l _ ne => ?_) (by show _ = HO.lst (fup2 g.ys s t _ s t); rw [fup2_same]), ⟨k.b.t.kwN, k.b.t.kwP, k.b.t.kwY, k.b.t.kwH, k.b.t.kh, k.b.t.ky, k.b.t.kyk, k.b.t.lw, k.b.t.lh, k.b.t.ly, k.b.t.n2, k.b.t.n4⟩⟩,
      k.p, ⟨fun i hi => pair_ch ch (k.h.hsn i hi), fun s' t' hs' ht' hst' u hu => ?_⟩⟩, ⟨ch, rfl, rfl, fun l _ => .inl (by cases l <;> rfl)⟩⟩
  · cases l with
    | ya i j =>
      show HO.lst (fup2 g.ys s t _ i j) = HO.lst (g.ys i j)
      rw [fup2_ne fun e => ne (by rw [e.1, e.2])]
    | _ => rfl
  · have hu : u ∈ fup2 g.ys s t (g.ys s t ++ [v]) s' t' := hu
    by_cases e : s' = s ∧ t' = t
    · obtain ⟨rfl, rfl⟩ := e
      rw [fup2_same] at hu
      rcases List.mem_append.mp hu with hu | hu
      · exact (k.h.ls s' t' hs ht hst u hu).ch ch
      · rw [List.mem_singleton.mp hu]
        exact hv.ch ch
    · rw [fup2_ne e] at hu
      exact (k.h.ls s' t' hs' ht' hst' u hu).ch ch
/-- the first letter taken off -/
theorem Wk.shift (k : Wk C H g) {s t : Nat} (hs : s < g.n) (ht : t < g.n) (hst : s ≠ t) {v : V} {r : List V} (hv : g.ys s t = v :: r) : Wk C (upd H (g.ya s t) (.lst r)) { g with ys := fup2 g.ys s t r } ∧
    Chw g { g with ys := fup2 g.ys s t r } H (upd H (g.ya s t) (.lst r)) := by
  have d0 : g.dom (.ya s t) := ⟨hs, ht, hst⟩
  have ch := k.b.c.oneCh (.ya s t) d0 (.lst r)
  refine ⟨⟨⟨k.b.c.one (.ya s t) d0 rfl (fun l => by cases l <;> rfl) (fun l _ ne => ?_) (by show _ = HO.lst (fup2 g.ys s t _ s t); rw [fup2_same]), ⟨k.b.t.kwN, k.b.t.kwP, k.b.t.kwY, k.b.t.kwH, k.b.t.kh, k.b.t.ky, k.b.t.kyk, k.b.t.lw, k.b.t.lh, k.b.t.ly, k.b.t.n2, k.b.t.n4⟩⟩,
      k.p, ⟨fun i hi => pair_ch ch (k.h.hsn i hi), fun s' t' hs' ht' hst' u hu => ?_⟩⟩, ⟨ch, rfl, rfl, fun l _ => .inl (by cases l <;> rfl)⟩⟩
  · cases l with
    | ya i j =>
      show HO.lst (fup2 g.ys s t _ i j) = HO.lst (g.ys i j)
      rw [fup2_ne fun e => ne (by rw [e.1, e.2])]
    | _ => rfl
  · have hu : u ∈ fup2 g.ys s t r s' t' := hu
    refine (k.h.ls s' t' hs' ht' hst' u ?_).ch ch
    by_cases e : s' = s ∧ t' = t
    · obtain ⟨rfl, rfl⟩ := e
      rw [fup2_same] at hu
      rw [hv]
      exact List.mem_cons_of_mem _ hu
    · rw [fup2_ne e] at hu
      exact hu
end
end K48

/-! written, comes, names, cell, draws -/
namespace K48
open PySem PySem.Spec PyProof.Rows L2
section
variable {P : Program} {w : World} {K : PySem.W.Frag} {mg : Str → Option Value} {base : Heap}
theorem scWri : FnScope ["_law_web_here", "_law_sender", "_law_letters", "_law_to", "_law_body"] ["_law_web_here", "_law_sender", "_law_letters"] (defScope sWritten) := ⟨rfl, rfl, rfl, by decide +kernel, rfl, by decide +kernel, by decide +kernel⟩
def spWri (C : Addr) : Sp := fun vs H Q _ => ∃ (g : Wd) (s : Nat) (l : Addr) (ls : List V), vs = [.ref g.w, .int (s : Int), .ref l] ∧ Wk C H g ∧ s < g.n ∧ H l = some (.lst ls) ∧ ¬ g.own l ∧
  (∀ v ∈ ls, ∃ (p : Addr) (b : V) (t : Nat), v = .ref p ∧ H p = some (.tup [.int (t : Int), b]) ∧ t < g.n ∧ s ≠ t ∧ LetOk H g.n g.ow t b) ∧ ls.length ≤ 1000 ∧ (∀ s t, (g.ys s t).length ≤ 100000) ∧
  ∀ (H' : Hp) (ys : Nat → Nat → List V), Wk C H' { g with ys := ys } → Chw g { g with ys := ys } H H' → (∀ s t, (ys s t).length ≤ (g.ys s t).length + ls.length) → Q .non H'
theorem ok_wri (T : TX K mg) : FnOk P w K mg base CX0 1 T.aWri T.dWri ["_law_web_here", "_law_sender", "_law_letters"] (spWri T.C) := by
  refine T.FWri.ok scWri (fun vs H Q E h => ?_) (fun cdv A outer s H vs Q E hr h => ?_)
  · obtain ⟨g, s, l, ls, rfl, _⟩ := h
    rfl
  · obtain ⟨g, s, l, ls, rfl, wk, hs, hl, nl, hls, hz, hy, k⟩ := h
    have hu := hu_of hr
    refine ⟨_, pss_one (ps_for PassesOwn.never rfl (pi_list (pv 2)) (pg_tup (by rfl) (pgs_cons (pg_name (i := 3) scWri.nd rfl (Or.inl rfl)) (pgs_cons (pg_name (i := 4) scWri.nd rfl (Or.inl rfl)) pgs_nil)))
      (pss_one (ps_expr (pe_bm PySem.F.plainAttrs_list PySem.F.slot_list_append PySem.F.type_list_append mt_append
        (pe_dget hu (pe_dget hu (pv 0) pe_str (fun _ _ => rfl)) (pe_tup (pa_cons (pv 1) (pa_cons (pv 3) pa_nil))) (fun _ _ => rfl)) (pa_cons (pv 4) pa_nil))))), ?_⟩
    refine ⟨_, rfl, l, rfl, ⟨_, SqL.of hl⟩, for_list (K := K) (a := l) (xs := ls) (fun i σ H' => ∃ (ys : Nat → Nat → List V) (v3 v4 : Option V), σ = [some (.ref g.w), some (.int (s : Int)), some (.ref l), v3, v4] ∧ Wk T.C H' { g with ys := ys } ∧
        Chw g { g with ys := ys } H H' ∧ ∀ s t, (ys s t).length ≤ (g.ys s t).length + i)
      ⟨g.ys, none, none, rfl, wk, Chw.refl g H, fun _ _ => Nat.le_refl _⟩ (fun i σ H' _ ⟨_, _, _, _, _, c, _⟩ => SqL.of (c.stay hl nl).1) ?_ ?_⟩
    · rintro i x σ H' hi ⟨ys, v3, v4, rfl, wk', c, hlen⟩
      obtain ⟨p, b, t, rfl, hp, ht, hst, hb⟩ := hls x (List.mem_of_getElem? hi)
      have hi' : i < ls.length := (List.getElem?_eq_some_iff.mp hi).1
      have hp' := c.ch.tups _ _ hp
      refine ⟨p, _, rfl, SqT.of hp', rfl, _, _, rfl, _, _, rfl, rfl, ?_⟩
      refine ⟨_, rfl, g.w, _, rfl, wk'.b.gY, _, rfl, _, rfl, by show 2 ≤ sizeLine; decide, fun r nr => ?_⟩
      have s1 := Same.new (o := .tup [.int (s : Int), .int (t : Int)]) nr
      have wk2 := wk'.same s1
      refine ⟨g.aY, _, rfl, wk2.b.gYa hs ht hst upd_same, .inl ⟨rfl, _, SqL.of (wk2.b.lY hs ht hst)⟩, _, rfl, g.ya s t, ys s t, b, rfl, rfl, wk2.b.lY hs ht hst, ?_, ?_⟩
      · have h1 := hlen s t
        have h2 := hy s t
        rw [sizeLine_eq]
        omega
      · have hb2 : LetOk (upd H' r (.tup [.int (s : Int), .int (t : Int)])) g.n g.ow t b := (hb.ch c.ch).same s1
        obtain ⟨wk3, c3⟩ := wk2.push hs ht hst hb2
        refine ⟨fup2 ys s t (ys s t ++ [b]), _, _, rfl, wk3, (c.trans (Chw.same s1)).trans c3, fun s' t' => ?_⟩
        have h1 := hlen s' t'
        by_cases e : s' = s ∧ t' = t
        · obtain ⟨rfl, rfl⟩ := e
          rw [fup2_same, List.length_append]
          show _ + 1 ≤ _
          omega
        · rw [fup2_ne e]
          omega
    · rintro σ H' ⟨ys, v3, v4, rfl, wk', c, hlen⟩
      exact k H' ys wk' c hlen
theorem bWri (T : TX K mg) : Binds K T.dWri ["_law_web_here", "_law_sender", "_law_letters"] [] := T.FWri.binds (ps := ["_law_web_here", "_law_sender", "_law_letters"]) fun _ _ _ _ _ _ us hl => match us, hl with | [_, _, _], _ => rfl

theorem scComes : FnScope ["_law_web_here", "_law_body"] ["_law_web_here", "_law_body"] (defScope sComes) := ⟨rfl, rfl, rfl, by decide +kernel, rfl, by decide +kernel, by decide +kernel⟩
def spComes (C : Addr) : Sp := fun vs H Q _ => ∃ (g : Wd) (b y : Addr) (z : Str) (x : Int), vs = [.ref g.w, .ref b] ∧ Wb C H g ∧ H b = some (.tup [.str z, .ref y, .int x]) ∧ Q (.bl (decide (g.now ≤ x))) H
theorem ok_comes (T : TX K mg) : FnOk P w K mg base CX0 1 T.aComes T.dComes ["_law_web_here", "_law_body"] (spComes T.C) := by
  refine T.FComes.ok scComes (fun vs H Q E h => ?_) (fun cdv A outer s H vs Q E hr h => ?_)
  · obtain ⟨g, b, y, z, x, rfl, _⟩ := h
    rfl
  · obtain ⟨g, b, y, z, x, rfl, wk, hb, k⟩ := h
    have hu := hu_of hr
    refine ⟨_, pss_one (ps_ret (pe_cmpR op_ge (pe_ix ix_tup (pv 1) pe_int (fun _ _ => rfl)) (pe_dget hu (pv 0) pe_str (fun _ _ => rfl)) (nomark _))), ?_⟩
    exact ⟨_, rfl, b, _, _, _, rfl, rfl, SqT.of hb, atI_nat (j := 2) rfl, _, rfl, g.w, _, rfl, wk.gN, _, _, rfl, rfl, k⟩
theorem bComes (T : TX K mg) : Binds K T.dComes ["_law_web_here", "_law_body"] [] := T.FComes.binds (ps := ["_law_web_here", "_law_body"]) fun _ _ _ _ _ _ us hl => match us, hl with | [_, _], _ => rfl
end
end K48

/-! names, cell, draws -/
namespace K48
open PySem PySem.Spec PyProof.Rows L2
section
variable {P : Program} {w : World} {K : PySem.W.Frag} {mg : Str → Option Value} {base : Heap}
theorem scNames : FnScope ["_law_web_here", "_law_names_here", "_law_house"] ["_law_web_here"] (defScope sNames) := ⟨rfl, rfl, rfl, by decide +kernel, rfl, by decide +kernel, by decide +kernel⟩
def spNames (C : Addr) : Sp := fun vs H Q _ => ∃ (g : Wd), vs = [.ref g.w] ∧ Wb C H g ∧ Link g ∧
  ∀ (H' : Hp) (l : Addr) (xs : List V) (ns : List Nm), Same H H' → H l = none → H' l = some (.lst xs) → Paired (NmAt H') xs ns → (∀ m ∈ ns, Valid g.n m) → Q (.ref l) H'
theorem ok_names (T : TX K mg) : FnOk P w K mg base CX0 1 T.aNames T.dNames ["_law_web_here"] (spNames T.C) := by
  refine T.FNames.ok scNames (fun vs H Q E h => ?_) (fun cdv A outer s H vs Q E hr h => ?_)
  · obtain ⟨g, rfl, _⟩ := h
    rfl
  · obtain ⟨g, rfl, wk, lk, k⟩ := h
    have hu := hu_of hr
    refine ⟨_, pss_cons (ps_set (i := 1) scNames.nd rfl (Or.inl rfl) (pe_lst pa_nil))
      (pss_cons (ps_for PassesOwn.never rfl (pi_range1 (by rfl) T.zRange (pa_cons (pe_callB call_len_seq (by rfl) T.zLen PySem.boot_len (pa_cons (pe_dget hu (pv 0) pe_str (fun _ _ => rfl)) pa_nil)) pa_nil)) (pg_name (i := 2) scNames.nd rfl (Or.inl rfl))
        (pss_one (ps_set (i := 1) scNames.nd rfl (Or.inl rfl) (pe_op op_cat (pv 1) (pe_lst (pa_cons (pe_tup (pa_cons (pv 2) (pa_cons (pe_op op_add (pe_op op_mul pe_int (pv 2)) pe_int) pa_nil)))
          (pa_cons (pe_tup (pa_cons (pv 2) (pa_cons (pe_op op_add pe_int (pv 2)) pa_nil))) pa_nil)))))))
      (pss_one (ps_ret (pv 1)))), ?_⟩
    refine ⟨Nat.zero_le _, fun l0 n0 => ?_⟩
    have s0 := Same.new (o := .lst []) n0
    have wk0 := wk.same s0
    refine ⟨_, rfl, g.w, _, rfl, wk0.gP, g.aP, _, rfl, .inl (SqL.of (wk0.lP lk)), ?_⟩
    have hn4 := wk.t.n4
    have e1 : (((List.range g.n).map fun i => V.ref (g.pa i)).length : Int) = (g.n : Int) := by rw [List.length_map, List.length_range]
    refine ⟨(g.n : Int), by rw [e1], by omega, by omega, for_range (lo := 0) (n := (g.n : Int).toNat) (fun i σ H' => ∃ (l : Addr) (xs : List V) (ns : List Nm) (v : Option V), σ = [some (.ref g.w), some (.ref l), v] ∧ Same H H' ∧ H l = none ∧ H' l = some (.lst xs) ∧ Paired (NmAt H') xs ns ∧
        xs.length = 2 * i ∧ ∀ m ∈ ns, Valid g.n m)
      ⟨l0, [], [], none, rfl, s0, n0, upd_same, .nil, rfl, fun _ h => nomatch h⟩ ?_ ?_⟩
    · rintro i σ H' hi ⟨l, xs, ns, v, rfl, s, nl, hl, hp, hlen, hv⟩
      have hi' : i < g.n := by omega
      refine ⟨_, rfl, _, rfl, _, rfl, _, _, rfl, rfl, .inl ⟨by decide, by decide⟩, _, _, rfl, rfl, by show 2 ≤ sizeLine; decide, fun t1 m1 => ?_⟩
      refine ⟨_, rfl, _, rfl, _, _, rfl, rfl, by show 2 ≤ sizeLine; decide, fun t2 m2 => ⟨by show 2 ≤ sizeLine; decide, fun b nb => ?_⟩⟩
      have s1 := Same.new (o := .tup [.int (0 + (i : Int)), .int (3 * (0 + (i : Int)) + 1)]) m1
      have s2 := Same.new (o := .tup [.int (0 + (i : Int)), .int (10 + (0 + (i : Int)))]) m2
      have s3 := Same.new (o := .lst [.ref t1, .ref t2]) nb
      have sA := (s1.trans s2).trans s3
      refine ⟨l, b, xs, _, rfl, rfl, sA _ _ hl, upd_same, ?_, fun l' nl' => ?_⟩
      · show xs.length + 2 ≤ _
        rw [sizeLine_eq]; omega
      have s4 := Same.new (o := .lst (xs ++ [.ref t1, .ref t2])) nl'
      refine ⟨l', xs ++ [.ref t1, .ref t2], ns ++ [((i : Int), 3 * (i : Int) + 1), ((i : Int), 10 + (i : Int))], _, rfl, (s.trans sA).trans s4, (s.trans sA).free nl', upd_same, ?_, ?_, ?_⟩
      · have q1 : NmAt _ (V.ref t1) ((i : Int), 3 * (i : Int) + 1) := ⟨t1, rfl, s4 _ _ (s3 _ _ (s2 _ _ (by rw [upd_same, Int.zero_add])))⟩
        have q2 : NmAt _ (V.ref t2) ((i : Int), 10 + (i : Int)) := ⟨t2, rfl, s4 _ _ (s3 _ _ (by rw [upd_same, Int.zero_add]))⟩
        have h1 := Paired.snoc (Paired.snoc (pair_same (sA.trans s4) hp) q1) q2
        rw [List.append_assoc, List.append_assoc] at h1
        exact h1
      · rw [List.length_append, hlen]
        show 2 * i + 2 = _
        omega
      · intro m hm
        rcases List.mem_append.mp hm with hm | hm
        · exact hv m hm
        · rcases List.mem_cons.mp hm with rfl | hm
          · exact ⟨i, hi', .inl rfl⟩
          · rcases List.mem_singleton.mp hm with rfl
            exact ⟨i, hi', .inr rfl⟩
    · rintro σ H' ⟨l, xs, ns, v, rfl, s, nl, hl, hp, hlen, hv⟩
      exact ⟨_, rfl, k H' l xs ns s nl hl hp hv⟩
theorem bNames (T : TX K mg) : Binds K T.dNames ["_law_web_here"] [] := T.FNames.binds (ps := ["_law_web_here"]) fun _ _ _ _ _ _ us hl => match us, hl with | [_], _ => rfl

theorem scCell : FnScope ["_law_script", "_law_k", "_law_spare"] ["_law_script", "_law_k"] (defScope sCell) := ⟨rfl, rfl, rfl, by decide +kernel, rfl, by decide +kernel, by decide +kernel⟩
def spCellK (K : PySem.W.Frag) : Sp := fun vs H Q _ => ∃ (a : Addr) (ns : List Int) (k : Nat), vs = [.ref a, .int (k : Int)] ∧ SqL K H a (ns.map V.int) ∧ k ≤ 1000 ∧ ∀ z : Int, Q (.int z) H
theorem ok_cell (T : TX K mg) : FnOk P w K mg base CX0 1 T.aCell T.dCell ["_law_script", "_law_k"] (spCellK K) := by
  refine T.FCell.ok scCell (fun vs H Q E h => ?_) (fun cdv A outer s H vs Q E hr h => ?_)
  · obtain ⟨a, ns, k, rfl, _⟩ := h
    rfl
  · obtain ⟨a, ns, j, rfl, hS, hj, k⟩ := h
    refine ⟨_, pss_cons (ps_if (pt_cmpR op_lt (pv 1) (pe_callB call_len_seq (by rfl) T.zLen PySem.boot_len (pa_cons (pv 0) pa_nil)) (nomark _)) (pss_one (ps_ret (pe_ix ix_list (pv 0) (pv 1) (fun _ _ => rfl)))) pss_nil)
      (pss_cons (ps_set (i := 2) scCell.nd rfl (Or.inl rfl) (pe_op op_add pe_int (pe_op op_mul (pe_op op_mul pe_int (pv 1)) (pv 1))))
      (pss_cons (ps_if (pt_cmpR op_gt (pe_callB call_len_seq (by rfl) T.zLen PySem.boot_len (pa_cons (pv 0) pa_nil)) pe_int (nomark _))
        (pss_one (ps_set (i := 2) scCell.nd rfl (Or.inl rfl) (pe_op op_add (pv 2) (pe_op op_mul (pe_op op_mod (pe_ix ix_list (pv 0) pe_int (fun _ _ => rfl)) pe_int) (pe_op op_add (pe_op op_mul pe_int (pv 1)) pe_int))))) pss_nil)
      (pss_one (ps_ret (pv 2))))), ?_⟩
    refine ⟨_, rfl, _, rfl, a, _, rfl, .inl hS, _, _, rfl, rfl, _, rfl, ?_⟩
    rw [List.length_map]
    refine ite2 (fun hb => ?_) (fun hb => ?_)
    · have hlt : j < ns.length := by
        have := of_decide_eq_true hb
        omega
      have e : (ns.map V.int)[j]? = some (.int ns[j]) := by rw [List.getElem?_map, List.getElem?_eq_getElem hlt]; rfl
      exact ⟨_, rfl, _, rfl, a, _, _, _, rfl, rfl, hS, atI_nat e, k _⟩
    · refine ⟨_, rfl, _, _, rfl, rfl, .inl ⟨by decide, by decide⟩, _, rfl, _, _, rfl, rfl, .inr ⟨by omega, by omega⟩, _, _, rfl, rfl, ?_⟩
      refine ⟨_, rfl, a, _, rfl, .inl hS, _, _, rfl, rfl, _, rfl, ?_⟩
      rw [List.length_map]
      refine ite2 (fun hc => ?_) (fun hc => ?_)
      · have hlt : 0 < ns.length := by
          have := of_decide_eq_true hc
          omega
        have e : (ns.map V.int)[0]? = some (.int ns[0]) := by rw [List.getElem?_map, List.getElem?_eq_getElem hlt]; rfl
        refine ⟨_, rfl, _, rfl, a, _, _, _, rfl, rfl, hS, atI_nat (j := 0) e, _, _, rfl, rfl, by show (0 : Int) < 99991; decide, _, rfl, _, _, rfl, rfl, .inl ⟨by decide, by decide⟩, _, _, rfl, rfl, _, _, rfl, rfl, .inr ⟨by omega, by omega⟩, _, _, rfl, rfl, ?_⟩
        exact ⟨_, rfl, k _⟩
      · exact ⟨_, rfl, k _⟩
theorem bCell (T : TX K mg) : Binds K T.dCell ["_law_script", "_law_k"] [] := T.FCell.binds (ps := ["_law_script", "_law_k"]) fun _ _ _ _ _ _ us hl => match us, hl with | [_, _], _ => rfl

theorem scDraws : FnScope ["_law_script", "_law_at", "_law_many", "_law_digits", "_law_left", "_law_k", "_law_mixed", "_law_draw"] ["_law_script", "_law_at", "_law_many"] (defScope sDraws) := ⟨rfl, rfl, rfl, by decide +kernel, rfl, by decide +kernel, by decide +kernel⟩
def spDraws (K : PySem.W.Frag) : Sp := fun vs H Q _ => ∃ (a : Addr) (ns : List Int), vs = [.ref a, .int 0, .int 60] ∧ SqL K H a (ns.map V.int) ∧
  ∀ (H' : Hp) (l : Addr) (ds : List Int), Same H H' → H l = none → H' l = some (.lst (ds.map V.int)) → ds.length = 60 → Q (.ref l) H'
theorem ok_draws (T : TX K mg) : FnOk P w K mg base CX0 2 T.aDraws T.dDraws ["_law_script", "_law_at", "_law_many"] (spDraws K) := by
  have GC : FnOk P w K mg base CX0 1 T.aCell T.dCell ["_law_script", "_law_k"] (spCellK K) := ok_cell T
  refine T.FDraws.ok scDraws (fun vs H Q E h => ?_) (fun cdv A outer s H vs Q E hr h => ?_)
  · obtain ⟨a, ns, rfl, _⟩ := h
    rfl
  · obtain ⟨a, ns, rfl, hS, k⟩ := h
    refine ⟨_, pss_cons (ps_set (i := 3) scDraws.nd rfl (Or.inl rfl) (pe_lst pa_nil))
      (pss_cons (ps_set (i := 4) scDraws.nd rfl (Or.inl rfl) (pe_callB (call_max2 rfl) (by rfl) T.zMax (by decide +kernel) (pa_cons pe_int (pa_cons (pe_call GC hr (by rfl) T.gCell T.FCell.kp (bCell T) .nil pass0 (pa_cons (pv 0) (pa_cons (pv 1) pa_nil))) pa_nil))))
      (pss_cons (ps_for PassesOwn.never rfl (pi_range1 (by rfl) T.zRange (pa_cons (pv 2) pa_nil)) (pg_name (i := 5) scDraws.nd rfl (Or.inl rfl))
        (pss_cons (ps_expr (pe_bm PySem.F.plainAttrs_list PySem.F.slot_list_append PySem.F.type_list_append mt_append (pv 3) (pa_cons (pe_op op_mod (pv 4) pe_int) pa_nil)))
        (pss_one (ps_set (i := 4) scDraws.nd rfl (Or.inl rfl) (pe_op op_fdiv (pv 4) pe_int)))))
      (pss_cons (ps_if (pt_cmpR op_gt (pv 4) pe_int (nomark _)) (pss_one (ps_ret (pv 3))) pss_nil)
      (pss_cons (ps_set (i := 6) scDraws.nd rfl (Or.inl rfl) (pe_lst pa_nil))
      (pss_cons (ps_set (i := 7) scDraws.nd rfl (Or.inl rfl) (pe_op op_mod (pe_op op_mul (pe_call GC hr (by rfl) T.gCell T.FCell.kp (bCell T) .nil pass0 (pa_cons (pv 0) (pa_cons (pv 1) pa_nil))) pe_int) pe_int))
      (pss_cons (ps_for PassesOwn.never rfl (pi_range1 (by rfl) T.zRange (pa_cons (pv 2) pa_nil)) (pg_name (i := 5) scDraws.nd rfl (Or.inl rfl))
        (pss_cons (ps_set (i := 7) scDraws.nd rfl (Or.inl rfl) (pe_op op_mod (pe_op op_add (pe_op op_add (pe_op op_mul (pv 7) pe_int) (pe_call GC hr (by rfl) T.gCell T.FCell.kp (bCell T) .nil pass0 (pa_cons (pv 0) (pa_cons (pe_op op_add (pe_op op_add (pv 1) pe_int) (pe_op op_mod (pv 5) pe_int)) pa_nil)))) (pe_op op_mul (pv 5) (pv 5))) pe_int))
        (pss_one (ps_expr (pe_bm PySem.F.plainAttrs_list PySem.F.slot_list_append PySem.F.type_list_append mt_append (pv 6) (pa_cons (pe_op op_fdiv (pe_op op_mod (pe_op op_add (pe_op op_mul (pv 7) pe_int) (pe_op op_mul pe_int (pv 5))) pe_int) pe_int) pa_nil))))))
      (pss_one (ps_ret (pv 6))))))))), ?_⟩
    refine ⟨Nat.zero_le _, fun D nD => ?_⟩
    have s0 := Same.new (o := .lst []) nD
    refine ⟨_, rfl, _, rfl, a, ns, 0, rfl, s0.seq hS, by omega, fun z0 => ⟨_, _, rfl, ?_⟩⟩
    refine ⟨_, rfl, 60, rfl, by decide, by decide, for_range (lo := 0) (n := (60 : Int).toNat) (fun i σ H' => ∃ (ds : List Int) (left : Int) (v : Option V), σ = [some (.ref a), some (.int 0), some (.int 60), some (.ref D), some (.int left), v, none, none] ∧ Same H H' ∧ H' D = some (.lst (ds.map V.int)) ∧ ds.length = i)
      ⟨[], _, none, rfl, s0, upd_same, rfl⟩ ?_ ?_⟩
    · rintro i σ H' hi ⟨ds, left, v, rfl, s, hD, hl⟩
      have hi' : i < 60 := hi
      refine ⟨_, rfl, .inl ⟨rfl, _, SqL.of hD⟩, _, rfl, _, _, rfl, rfl, by show (0 : Int) < 10000; decide, D, _, _, rfl, rfl, hD, by rw [List.length_map, sizeLine_eq]; omega, ?_⟩
      refine ⟨_, rfl, _, _, rfl, rfl, ⟨by decide, by decide⟩, ?_⟩
      refine ⟨ds ++ [left % 10000], _, _, rfl, fun b o e => by rw [upd_ne (ne_of_none e nD)]; exact s b o e, by rw [upd_same, List.map_append]; rfl, by rw [List.length_append, hl]; rfl⟩
    · rintro σ H' ⟨ds, left, v, rfl, s, hD, hl⟩
      refine ⟨_, rfl, _, _, rfl, rfl, _, rfl, ?_⟩
      refine ite2 (fun _ => ?_) (fun _ => ?_)
      · exact ⟨_, rfl, k H' D ds s nD hD hl⟩
      · refine ⟨Nat.zero_le _, fun M nM => ?_⟩
        have s1 := Same.new (o := .lst []) nM
        refine ⟨_, rfl, _, rfl, a, ns, 0, rfl, s1.seq (s.seq hS), by omega, fun z1 => ⟨_, _, rfl, rfl, .inr ⟨by decide, by decide⟩, _, _, rfl, rfl, by show (0 : Int) < 2147483647; decide, ?_⟩⟩
        have nM0 := s.free nM
        refine ⟨_, rfl, 60, rfl, by decide, by decide, for_range (lo := 0) (n := (60 : Int).toNat) (fun i σ H2 => ∃ (es : List Int) (dr : Int) (v : Option V), σ = [some (.ref a), some (.int 0), some (.int 60), some (.ref D), some (.int left), v, some (.ref M), some (.int dr)] ∧ Same H H2 ∧ H2 M = some (.lst (es.map V.int)) ∧ es.length = i)
          ⟨[], _, v, rfl, s.trans s1, upd_same, rfl⟩ ?_ ?_⟩
        · rintro i σ H2 hi ⟨es, dr, v, rfl, s2, hM, hl2⟩
          have hi' : i < 60 := hi
          have hm1 : 0 ≤ (0 + (i : Int)) % 30 := Int.emod_nonneg _ (by decide)
          have hm2 : (0 + (i : Int)) % 30 < 30 := Int.emod_lt_of_pos _ (by decide)
          have ecell : [V.ref a, V.int (0 + 1 + (0 + (i : Int)) % 30)] = [V.ref a, V.int (((1 + (0 + (i : Int)) % 30).toNat : Nat) : Int)] := by
            rw [show (((1 + (0 + (i : Int)) % 30).toNat : Nat) : Int) = 0 + 1 + (0 + (i : Int)) % 30 by omega]
          refine ⟨_, rfl, _, _, rfl, rfl, .inr ⟨by decide, by decide⟩, _, rfl, _, rfl, _, _, rfl, rfl, _, rfl, _, _, rfl, rfl, by show (0 : Int) < 30; decide, _, _, rfl, rfl, a, ns, _, ecell, s2.seq hS, by omega, fun z2 => ?_⟩
          refine ⟨_, _, rfl, rfl, _, rfl, _, rfl, _, _, rfl, rfl, .inl ⟨by omega, by omega⟩, _, _, rfl, rfl, _, _, rfl, rfl, by show (0 : Int) < 2147483629; decide, ?_⟩
          refine ⟨_, rfl, .inl ⟨rfl, _, SqL.of hM⟩, _, rfl, _, _, rfl, rfl, .inr ⟨by decide, by decide⟩, _, rfl, _, _, rfl, rfl, .inl ⟨by decide, by decide⟩, _, _, rfl, rfl, _, _, rfl, rfl, by show (0 : Int) < 2147483647; decide, _, _, rfl, rfl, ⟨by decide, by decide⟩,
            M, _, _, rfl, rfl, hM, by rw [List.length_map, sizeLine_eq]; omega, ?_⟩
          refine ⟨es ++ [_], _, _, rfl, fun b o e => by rw [upd_ne (ne_of_none e nM0)]; exact s2 b o e, by rw [upd_same, List.map_append]; rfl, by rw [List.length_append, hl2]; rfl⟩
        · rintro σ H2 ⟨es, dr, v, rfl, s2, hM, hl2⟩
          exact ⟨_, rfl, k H2 M es s2 nM0 hM hl2⟩
theorem bDraws (T : TX K mg) : Binds K T.dDraws ["_law_script", "_law_at", "_law_many"] [] := T.FDraws.binds (ps := ["_law_script", "_law_at", "_law_many"]) fun _ _ _ _ _ _ us hl => match us, hl with | [_, _, _], _ => rfl
end
end K48

/-! what changes keep the invariant; handed -/
namespace K48
open PySem PySem.Spec PyProof.Rows L2
theorem fup_id {α : Type} (f : Nat → α) (i : Nat) : fup f i (f i) = f := by
  funext j
  unfold fup
  split
  · rename_i e; rw [e]
  · rfl
section
variable {n : Nat} {now : Int} {ow he : Nat → Tb} {hn : Nat → List Nm} {i : Nat}
theorem Lf_lend {m : Nm} (e : m.1 = (i : Int)) (x : Int) (a : Nm) : Lf (fup ow i (ptb (ow i) m x)) a = if a = m then x else Lf ow a := by
  unfold Lf
  by_cases c : a = m
  · subst c
    have e1 : a.1.toNat = i := by rw [e]; exact Int.toNat_natCast i
    rw [if_pos rfl, e1, fup_same, lk_put, if_pos rfl]
    rfl
  · rw [if_neg c]
    by_cases d : a.1.toNat = i
    · rw [d, fup_same, lk_put, if_neg c]
    · rw [fup_ne d]
theorem GoodP.up (p : GoodP n now ow he hn) {m : Nm} (e : m.1 = (i : Int)) (hv : Valid n m) : ∀ a, Valid n a → Lf ow a ≤ Lf (fup ow i (ptb (ow i) m (now + 8))) a := fun a ha => by
  rw [Lf_lend e]
  split
  · rename_i c; rw [c]; exact p.l8 m hv
  · exact Int.le_refl _
theorem GoodP.lend (p : GoodP n now ow he hn) {m : Nm} (e : m.1 = (i : Int)) (hv : Valid n m) : GoodP n now (fup ow i (ptb (ow i) m (now + 8))) he hn where
  now0 := p.now0
  hv := p.hv
  hown := p.hown
  kn := p.kn
  ko := p.ko
  ov := fun j hj a ha => by
    by_cases c : j = i
    · subst c
      rw [fup_same, lk_put] at ha
      by_cases d : a = m
      · rw [d]; exact hv
      · rw [if_neg d] at ha
        exact p.ov j hj a ha
    · rw [fup_ne c] at ha
      exact p.ov j hj a ha
  ndo := fun j hj => by
    by_cases c : j = i
    · subst c
      rw [fup_same]
      exact (p.ndo j hj).put _ _
    · rw [fup_ne c]
      exact p.ndo j hj
  ndh := p.ndh
  le := fun j hj a x ha => Int.le_trans (p.le j hj a x ha) (p.up e hv a (p.ko j hj a (by rw [ha]; rfl)).2)
  l8 := fun a ha => by
    rw [Lf_lend e]
    split
    · exact Int.le_refl _
    · exact p.l8 a ha
  lm := fun a ha => by
    rw [Lf_lend e]
    split
    · have := p.now0
      omega
    · exact p.lm a ha
/-- a part's table of names of others and what its house has are changed together -/
theorem GoodP.her (p : GoodP n now ow he hn) {he' : Tb} {hn' : List Nm} (hv : ∀ m ∈ hn', Valid n m) (hown : ((i : Int), 3 * (i : Int) + 1) ∈ hn') (kn : ∀ m : Nm, m.1 ≠ (i : Int) → ((lk he' m).isSome = true ↔ m ∈ hn'))
    (ko : ∀ m : Nm, (lk he' m).isSome = true → m.1 ≠ (i : Int) ∧ Valid n m) (nd : Nd he') (le : ∀ m x, lk he' m = some x → x ≤ Lf ow m) : GoodP n now ow (fup he i he') (fup hn i hn') where
  now0 := p.now0
  hv := fun j hj m hm => by
    by_cases c : j = i
    · subst c; rw [fup_same] at hm; exact hv m hm
    · rw [fup_ne c] at hm; exact p.hv j hj m hm
  hown := fun j hj => by
    by_cases c : j = i
    · subst c; rw [fup_same]; exact hown
    · rw [fup_ne c]; exact p.hown j hj
  kn := fun j hj m hm => by
    by_cases c : j = i
    · subst c; rw [fup_same, fup_same]; exact kn m hm
    · rw [fup_ne c, fup_ne c]; exact p.kn j hj m hm
  ko := fun j hj m hm => by
    by_cases c : j = i
    · subst c; rw [fup_same] at hm; exact ko m hm
    · rw [fup_ne c] at hm; exact p.ko j hj m hm
  ov := p.ov
  ndo := p.ndo
  ndh := fun j hj => by
    by_cases c : j = i
    · subst c; rw [fup_same]; exact nd
    · rw [fup_ne c]; exact p.ndh j hj
  le := fun j hj m x hm => by
    by_cases c : j = i
    · subst c; rw [fup_same] at hm; exact le m x hm
    · rw [fup_ne c] at hm; exact p.le j hj m x hm
  l8 := p.l8
  lm := p.lm
end
section
variable {C : Addr} {H H' : Hp} {g : Wd} {i : Nat}
theorem Tabs.ow (t : Tabs g) (ow he : Nat → Tb) (hs : Nat → List V) (hn : Nat → List Nm) (ys : Nat → Nat → List V) : Tabs { g with ow := ow, he := he, hs := hs, hn := hn, ys := ys } := ⟨t.kwN, t.kwP, t.kwY, t.kwH, t.kh, t.ky, t.kyk, t.lw, t.lh, t.ly, t.n2, t.n4⟩
/-- a part's own leases changed -/
theorem Cells.setO (c : Cells C H g) (hi : i < g.n) {ow : Tb} (ch : Ch (fun b => b = (g.pq i).o) H H') (p : PartAt C H' (g.pa i) (g.pq i) i (g.pn i) ow (g.he i)) : Cells C H' { g with ow := fup g.ow i ow } := by
  have h := c.setPart hi (fun b e => .inr (.inl e)) ch p
  rw [fup_id, fup_id] at h
  exact h
theorem Cells.setE (c : Cells C H g) (hi : i < g.n) {he : Tb} (ch : Ch (fun b => b = (g.pq i).e) H H') (p : PartAt C H' (g.pa i) (g.pq i) i (g.pn i) (g.ow i) he) : Cells C H' { g with he := fup g.he i he } := by
  have h := c.setPart hi (fun b e => .inr (.inr e)) ch p
  rw [fup_id, fup_id] at h
  exact h
theorem Wk.lend (k : Wk C H g) (hi : i < g.n) {m : Nm} (e : m.1 = (i : Int)) (hv : Valid g.n m) (ch : Ch (fun b => b = (g.pq i).o) H H') (p : PartAt C H' (g.pa i) (g.pq i) i (g.pn i) (ptb (g.ow i) m (g.now + 8)) (g.he i)) :
    Wk C H' { g with ow := fup g.ow i (ptb (g.ow i) m (g.now + 8)) } ∧ Chw g { g with ow := fup g.ow i (ptb (g.ow i) m (g.now + 8)) } H H' :=
  ⟨⟨⟨k.b.c.setO hi ch p, k.b.t.ow _ _ _ _ _⟩, k.p.lend e hv, (k.h.ch ch).up (k.p.up e hv)⟩, ⟨Wd.chPart hi (fun b e => .inr (.inl e)) ch, rfl, rfl, fun l _ => .inl (by cases l <;> rfl)⟩⟩
theorem Link.ow (t : Link g) (ow he : Nat → Tb) (hs : Nat → List V) (hn : Nat → List Nm) (ys : Nat → Nat → List V) : Link { g with ow := ow, he := he, hs := hs, hn := hn, ys := ys } := ⟨t.pl, t.pn⟩
end
section
variable {P : Program} {w : World} {K : PySem.W.Frag} {mg : Str → Option Value} {base : Heap}
/-- from a web at turn k to one at the next -/
def Post (C : Addr) (g : Wd) (k : Nat) (H : Hp) (Q : VK) : Prop := ∀ (H' : Hp) (g' : Wd), WIn C H' g' (k + 1) → Chw g g' H H' → Q .non H'
theorem scHdd : FnScope ["_law_web_here", "_law_house", "_law_draw", "_law_many", "_law_to", "_law_some", "_law_name", "_law_extra", "_law_letters"] ["_law_web_here", "_law_house", "_law_draw"] (defScope sHanded) := ⟨rfl, rfl, rfl, by decide +kernel, rfl, by decide +kernel, by decide +kernel⟩
def spHdd (C : Addr) : Sp := fun vs H Q _ => ∃ (g : Wd) (k i : Nat) (d : Int), vs = [.ref g.w, .int (i : Int), .int d] ∧ WIn C H g k ∧ i < g.n ∧ k ≤ 60 ∧ Post C g k H Q
theorem to_ok {n i : Nat} {d : Int} (h2 : 2 ≤ n) (h4 : n ≤ 4) (hi : i < n) : ∃ t : Nat, ((i : Int) + 1 + d % ((n : Int) - 1)) % (n : Int) = (t : Int) ∧ t < n ∧ i ≠ t := by
  have h1 : 0 ≤ d % ((n : Int) - 1) := Int.emod_nonneg _ (by omega)
  have h3 : d % ((n : Int) - 1) < (n : Int) - 1 := Int.emod_lt_of_pos _ (by omega)
  generalize d % ((n : Int) - 1) = r at h1 h3
  refine ⟨(((i : Int) + 1 + r) % (n : Int)).toNat, ?_, ?_, ?_⟩
  · have := Int.emod_nonneg ((i : Int) + 1 + r) (show (n : Int) ≠ 0 by omega)
    omega
  · have := Int.emod_lt_of_pos ((i : Int) + 1 + r) (show (0 : Int) < (n : Int) by omega)
    omega
  · have hn : n = 2 ∨ n = 3 ∨ n = 4 := by omega
    rcases hn with rfl | rfl | rfl <;> omega
theorem ok_hdd (T : TX K mg) : FnOk P w K mg base CX0 4 T.aHdd T.dHdd ["_law_web_here", "_law_house", "_law_draw"] (spHdd T.C) := by
  have GH : FnOk P w K mg base CX0 3 T.aHand T.dHand ["self", "name", "to"] (spHandOn T.C) := ok_handon T
  have GW : FnOk P w K mg base CX0 1 T.aWri T.dWri ["_law_web_here", "_law_sender", "_law_letters"] (spWri T.C) := ok_wri T
  refine T.FHdd.ok scHdd (fun vs H Q E h => ?_) (fun cdv A outer s H vs Q E hr h => ?_)
  · obtain ⟨g, k, i, d, rfl, _⟩ := h
    rfl
  · obtain ⟨g, k, i, d, rfl, W, hi, hk, post⟩ := h
    have hu := hu_of hr
    have hr1 : Room 1 _ := hr.mono (by decide)
    refine ⟨_, pss_cons (ps_set (i := 3) scHdd.nd rfl (Or.inl rfl) (pe_callB call_len_seq (by rfl) T.zLen PySem.boot_len (pa_cons (pe_dget hu (pv 0) pe_str (fun _ _ => rfl)) pa_nil)))
      (pss_cons (ps_set (i := 4) scHdd.nd rfl (Or.inl rfl) (pe_op op_mod (pe_op op_add (pe_op op_add (pv 1) pe_int) (pe_op op_mod (pv 2) (pe_op op_sub (pv 3) pe_int))) (pv 3)))
      (pss_cons (ps_set (i := 5) scHdd.nd rfl (Or.inl rfl) (pe_dget hu (pe_dget hu (pv 0) pe_str (fun _ _ => rfl)) (pv 1) (fun _ _ => rfl)))
      (pss_cons (ps_set (i := 6) scHdd.nd rfl (Or.inl rfl) (pe_ix ix_list (pv 5) (pe_op op_mod (pe_op op_fdiv (pv 2) pe_int) (pe_callB call_len_seq (by rfl) T.zLen PySem.boot_len (pa_cons (pv 5) pa_nil))) (fun _ _ => rfl)))
      (pss_cons (ps_asg (pe_meth (pe_ix ix_list (pe_dget hu (pv 0) pe_str (fun _ _ => rfl)) (pv 1) (fun _ _ => rfl)) T.cl T.mHand GH hr (bHandOn T) .nil pass0 (pa_cons (pv 6) (pa_cons (pv 4) pa_nil)))
          (pg_tup (by rfl) (pgs_cons (pg_name (i := 7) scHdd.nd rfl (Or.inl rfl)) (pgs_cons (pg_name (i := 8) scHdd.nd rfl (Or.inl rfl)) pgs_nil))))
      (pss_cons (ps_expr (pe_bm PySem.F.plainAttrs_list PySem.F.slot_list_append PySem.F.type_list_append mt_append
          (pe_dget hu (pe_dget hu (pv 0) pe_str (fun _ _ => rfl)) (pe_tup (pa_cons (pv 1) (pa_cons (pv 4) pa_nil))) (fun _ _ => rfl)) (pa_cons (pe_tup (pa_cons pe_str (pa_cons (pv 6) (pa_cons (pv 7) pa_nil)))) pa_nil)))
      (pss_one (ps_expr (pe_call GW hr1 (by rfl) T.gWri T.FWri.kp (bWri T) .nil pass0 (pa_cons (pv 0) (pa_cons (pv 1) (pa_cons (pv 8) pa_nil))))))))))), ?_⟩
    have B := W.wk.b
    obtain ⟨t, et, ht, hit⟩ := to_ok (d := d) B.t.n2 B.t.n4 hi
    have hn2 := B.t.n2
    have hn4 := B.t.n4
    have len : (((List.range g.n).map fun j => V.ref (g.pa j)).length : Int) = (g.n : Int) := by rw [List.length_map, List.length_range]
    refine ⟨_, rfl, g.w, _, rfl, B.gP, g.aP, _, rfl, .inl (SqL.of (B.lP W.lk)), ?_⟩
    rw [len]
    refine ⟨_, rfl, _, _, rfl, rfl, _, rfl, _, rfl, _, _, rfl, rfl, _, _, rfl, rfl, by omega, _, _, rfl, rfl, _, rfl, _, _, rfl, rfl, by omega, ?_⟩
    dsimp only
    rw [et]
    refine ⟨_, rfl, g.w, _, rfl, B.gH, _, rfl, g.aB, _, rfl, B.gB hi, ?_⟩
    have hsn := W.wk.h.hsn i hi
    have hpos : 0 < (g.hs i).length := by
      rw [Paired.length hsn]
      exact List.length_pos_of_mem (W.wk.p.hown i hi)
    have m1 : 0 ≤ d / 8 % ((g.hs i).length : Int) := Int.emod_nonneg _ (by omega)
    have m2 : d / 8 % ((g.hs i).length : Int) < ((g.hs i).length : Int) := Int.emod_lt_of_pos _ (by omega)
    obtain ⟨j, ej⟩ : ∃ j : Nat, d / 8 % ((g.hs i).length : Int) = (j : Int) := ⟨(d / 8 % ((g.hs i).length : Int)).toNat, by omega⟩
    have hj : j < (g.hs i).length := by omega
    obtain ⟨m, hm, y, ey, hy⟩ := pair_getL hsn (List.getElem?_eq_getElem hj)
    have hmem := List.mem_of_getElem? hm
    have hvalid := W.wk.p.hv i hi m hmem
    refine ⟨_, rfl, _, rfl, _, _, rfl, rfl, ⟨by decide, by decide⟩, _, rfl, g.ba i, _, rfl, .inl (SqL.of (B.lB hi)), _, _, rfl, rfl, by omega, g.ba i, _, _, _, rfl, rfl, SqL.of (B.lB hi), at_of ej (List.getElem?_eq_getElem hj), ?_⟩
    rw [ey]
    have pt := B.c.part hi
    refine ⟨_, rfl, g.w, _, rfl, B.gP, _, rfl, g.aP, _, _, _, rfl, rfl, SqL.of (B.lP W.lk), atI_nat (range_at hi), g.pa i, _, _, rfl, pt.ob, no_meth (by decide +kernel), _, rfl, _, rfl,
      g.pa i, y, m, g.pq i, i, g.pn i, t, g.ow i, g.he i, rfl, pt, hy, by have := W.ln.lo i hi; omega, fun H1 p l ow' x p1 c1 np nl hl hp h1 h2 => ?_⟩
    have key : ∃ ow1 : Nat → Tb, Wk T.C H1 { g with ow := ow1 } ∧ Chw g { g with ow := ow1 } H H1 ∧ x ≤ Lf ow1 m ∧ ∀ j, j < g.n → (ow1 j).length ≤ k + 1 := by
      by_cases own : m.1 = (i : Int)
      · obtain ⟨e1, e2⟩ := h1 own
        rw [W.lk.pn i hi] at e1 e2
        rw [e2] at p1
        obtain ⟨wk1, cw1⟩ := W.wk.lend hi own hvalid c1 p1
        refine ⟨_, wk1, cw1, by rw [Lf_lend own, if_pos rfl, e1]; exact Int.le_refl _, fun j hj => ?_⟩
        by_cases c : j = i
        · rw [c, fup_same]
          have := ptb_len (g.ow i) m (g.now + 8)
          have := W.ln.lo i hi
          omega
        · rw [fup_ne c]
          exact Nat.le_succ_of_le (W.ln.lo j hj)
      · obtain ⟨e1, e2⟩ := h2 own
        rw [e2] at p1
        have cc := B.c.setO hi c1 p1
        rw [fup_id] at cc
        refine ⟨g.ow, ⟨⟨cc, B.t⟩, W.wk.p, W.wk.h.ch c1⟩, ⟨Wd.chPart hi (fun b e => .inr (.inl e)) c1, rfl, rfl, fun l _ => .inl rfl⟩, ?_, fun j hj => Nat.le_succ_of_le (W.ln.lo j hj)⟩
        obtain ⟨z, hz⟩ := Option.isSome_iff_exists.mp ((W.wk.p.kn i hi m own).mpr hmem)
        rw [e1, hz]
        exact W.wk.p.le i hi m z hz
    obtain ⟨ow1, wk1, cw1, hx, hlo⟩ := key
    have nl1 : ¬ ({ g with ow := ow1 } : Wd).own l := fun ⟨a, da, qa⟩ => by
      have := B.c.cell a da
      rw [show g.adr a = l from (by rw [qa]; cases a <;> rfl), nl] at this
      cases this
    refine ⟨p, _, rfl, SqT.of hp, rfl, _, _, rfl, _, _, rfl, rfl, ?_⟩
    refine ⟨_, rfl, g.w, _, rfl, wk1.b.gY, _, rfl, _, rfl, by show 2 ≤ sizeLine; decide, fun u nu => ?_⟩
    have s2 := Same.new (o := .tup [.int (i : Int), .int (t : Int)]) nu
    have wk2 := wk1.same s2
    refine ⟨g.aY, _, rfl, wk2.b.gYa hi ht hit upd_same, .inl ⟨rfl, _, SqL.of (wk2.b.lY hi ht hit)⟩, _, rfl, _, rfl, by show 3 ≤ sizeLine; decide, fun r nr => ?_⟩
    have s3 := Same.new (o := .tup [.str "hand", .ref y, .int x]) nr
    have wk3 := wk2.same s3
    refine ⟨g.ya i t, _, _, rfl, rfl, wk3.b.lY hi ht hit, ?_, ?_⟩
    · have := W.ln.lys i t
      show (g.ys i t).length < _
      rw [sizeLine_eq]
      omega
    · have hy3 := (((hy.ch c1).same s2).same s3)
      obtain ⟨wk4, cw4⟩ := wk3.push hi ht hit (v := .ref r) ⟨r, y, m, rfl, hvalid, hy3, .inl ⟨x, .inl upd_same, hx⟩⟩
      have cw3 := (cw1.trans (Chw.same s2)).trans (Chw.same s3)
      have hl4 := cw4.stay (s3 _ _ (s2 _ _ hl)) nl1
      refine ⟨_, rfl, _, rfl, _, rfl, { g with ow := ow1, ys := fup2 g.ys i t (g.ys i t ++ [.ref r]) }, i, l, [], rfl, wk4, hi, hl4.1, hl4.2, (fun _ h => nomatch h), Nat.zero_le _, fun s' t' => ?_, fun H' ys' wk' cw' hlen => ?_⟩
      · have := W.ln.lys s' t'
        show (fup2 g.ys i t (g.ys i t ++ [V.ref r]) s' t').length ≤ _
        by_cases e : s' = i ∧ t' = t
        · obtain ⟨rfl, rfl⟩ := e
          rw [fup2_same, List.length_append]
          show _ + 1 ≤ _
          omega
        · rw [fup2_ne e]
          omega
      · refine post H' _ ⟨wk', W.lk.ow _ _ _ _ _, ⟨hlo, fun j hj => Nat.le_succ_of_le (W.ln.lh j hj), fun j hj => Nat.le_succ_of_le (W.ln.lhs j hj), fun s' t' => ?_⟩⟩ ((cw3.trans cw4).trans cw')
        have h5 := hlen s' t'
        have h6 := W.ln.lys s' t'
        have h7 : (fup2 g.ys i t (g.ys i t ++ [V.ref r]) s' t').length ≤ (g.ys s' t').length + 1 := by
          by_cases e : s' = i ∧ t' = t
          · obtain ⟨rfl, rfl⟩ := e
            rw [fup2_same, List.length_append]
            exact Nat.le_refl _
          · rw [fup2_ne e]
            omega
        show (ys' s' t').length ≤ _
        have h8 : (ys' s' t').length ≤ (fup2 g.ys i t (g.ys i t ++ [V.ref r]) s' t').length + 0 := h5
        omega
theorem bHdd (T : TX K mg) : Binds K T.dHdd ["_law_web_here", "_law_house", "_law_draw"] [] := T.FHdd.binds (ps := ["_law_web_here", "_law_house", "_law_draw"]) fun _ _ _ _ _ _ us hl => match us, hl with | [_, _, _], _ => rfl
end
end K48

/-! done, some_done -/
namespace K48
open PySem PySem.Spec PyProof.Rows L2
section
variable {C : Addr} {H H' : Hp} {g : Wd} {i : Nat}
/-- a lease of a name that the house has is put -/
theorem Wk.hePut (k : Wk C H g) (hi : i < g.n) {m : Nm} {x : Int} (hm : m ∈ g.hn i) (e : m.1 ≠ (i : Int)) (hx : x ≤ Lf g.ow m) (ch : Ch (fun b => b = (g.pq i).e) H H') (p : PartAt C H' (g.pa i) (g.pq i) i (g.pn i) (g.ow i) (ptb (g.he i) m x)) :
    Wk C H' { g with he := fup g.he i (ptb (g.he i) m x) } ∧ Chw g { g with he := fup g.he i (ptb (g.he i) m x) } H H' := by
  have gp := k.p.her (i := i) (he' := ptb (g.he i) m x) (hn' := g.hn i) (k.p.hv i hi) (k.p.hown i hi) (fun a ha => by
      rw [lk_put]
      by_cases c : a = m
      · rw [if_pos c, c]; exact ⟨fun _ => hm, fun _ => rfl⟩
      · rw [if_neg c]; exact k.p.kn i hi a ha) (fun a ha => by
      rw [lk_put] at ha
      by_cases c : a = m
      · rw [c]; exact ⟨e, k.p.hv i hi m hm⟩
      · rw [if_neg c] at ha; exact k.p.ko i hi a ha) ((k.p.ndh i hi).put _ _) (fun a z ha => by
      rw [lk_put] at ha
      by_cases c : a = m
      · rw [if_pos c] at ha; cases ha; rw [c]; exact hx
      · rw [if_neg c] at ha; exact k.p.le i hi a z ha)
  rw [fup_id] at gp
  exact ⟨⟨⟨k.b.c.setE hi ch p, k.b.t.ow _ _ _ _ _⟩, gp, k.h.ch ch⟩, ⟨Wd.chPart hi (fun b e => .inr (.inr e)) ch, rfl, rfl, fun l _ => .inl (by cases l <;> rfl)⟩⟩
/-- the table as it was -/
theorem Wk.heId (k : Wk C H g) (hi : i < g.n) (ch : Ch (fun b => b = (g.pq i).e) H H') (p : PartAt C H' (g.pa i) (g.pq i) i (g.pn i) (g.ow i) (g.he i)) : Wk C H' g ∧ Chw g g H H' := by
  have c := k.b.c.setE hi ch p
  rw [fup_id] at c
  exact ⟨⟨⟨c, k.b.t⟩, k.p, k.h.ch ch⟩, ⟨Wd.chPart hi (fun b e => .inr (.inr e)) ch, rfl, rfl, fun l _ => .inl rfl⟩⟩
/-- a name comes that the house hadn't -/
theorem Wk.arrive {H2 : Hp} (k : Wk C H g) (hi : i < g.n) {m : Nm} {he : Tb} {y : Addr} (hv : Valid g.n m) (hy : NmT H y m) (hm : ¬ m ∈ g.hn i) (ch : Ch (fun b => b = (g.pq i).e) H H') (p : PartAt C H' (g.pa i) (g.pq i) i (g.pn i) (g.ow i) he)
    (hcase : (m.1 = (i : Int) ∧ he = g.he i) ∨ (m.1 ≠ (i : Int) ∧ ∃ x, x ≤ Lf g.ow m ∧ he = ptb (g.he i) m x)) (eH : H2 = upd H' (g.ba i) (.lst (g.hs i ++ [.ref y]))) :
    Wk C H2 { g with he := fup g.he i he, hs := fup g.hs i (g.hs i ++ [.ref y]), hn := fup g.hn i (g.hn i ++ [m]) } ∧
    Chw g { g with he := fup g.he i he, hs := fup g.hs i (g.hs i ++ [.ref y]), hn := fup g.hn i (g.hn i ++ [m]) } H H2 := by
  subst eH
  have c1 := k.b.c.setE hi ch p
  have ch1 := Wd.chPart hi (fun b e => .inr (.inr e)) ch
  have d0 : ({ g with he := fup g.he i he } : Wd).dom (.ba i) := hi
  have ch2 := c1.oneCh (.ba i) d0 (.lst (g.hs i ++ [.ref y]))
  have own1 : ∀ b, ({ g with he := fup g.he i he } : Wd).own b → g.own b := fun b ⟨l, d, q⟩ => ⟨l, by cases l <;> exact d, by rw [q]; cases l <;> rfl⟩
  have chA : Ch g.own H (upd H' (g.ba i) (.lst (g.hs i ++ [.ref y]))) := ch1.trans (ch2.mono own1)
  refine ⟨⟨⟨c1.one (g' := { g with he := fup g.he i he, hs := fup g.hs i (g.hs i ++ [.ref y]), hn := fup g.hn i (g.hn i ++ [m]) }) (.ba i) d0 rfl (fun l => by cases l <;> rfl) (fun l _ ne => ?_) (by show _ = HO.lst (fup g.hs i _ i); rw [fup_same]), k.b.t.ow _ _ _ _ _⟩, ?_, ⟨fun j hj => ?_, fun s t hs ht hst v hv' => (k.h.ls s t hs ht hst v hv').ch chA⟩⟩,
    ⟨chA, rfl, rfl, fun l _ => .inl (by cases l <;> rfl)⟩⟩
  · cases l with
    | ba j =>
      show HO.lst (fup g.hs i _ j) = HO.lst (g.hs j)
      rw [fup_ne fun e => ne (by rw [e])]
    | _ => rfl
  · refine k.p.her (fun a ha => ?_) (List.mem_append_left _ (k.p.hown i hi)) (fun a ha => ?_) (fun a ha => ?_) ?_ (fun a z ha => ?_)
    · rcases List.mem_append.mp ha with ha | ha
      · exact k.p.hv i hi a ha
      · rw [List.mem_singleton.mp ha]; exact hv
    · rcases hcase with ⟨e1, e2⟩ | ⟨e1, x, _, e2⟩
      · rw [e2, k.p.kn i hi a ha]
        constructor
        · exact fun h => List.mem_append_left _ h
        · intro h
          rcases List.mem_append.mp h with h | h
          · exact h
          · rw [List.mem_singleton.mp h] at ha; exact absurd e1 ha
      · rw [e2, lk_put]
        by_cases c : a = m
        · rw [if_pos c, c]
          exact ⟨fun _ => List.mem_append_right _ (List.mem_singleton.mpr rfl), fun _ => rfl⟩
        · rw [if_neg c, k.p.kn i hi a ha]
          constructor
          · exact fun h => List.mem_append_left _ h
          · intro h
            rcases List.mem_append.mp h with h | h
            · exact h
            · exact absurd (List.mem_singleton.mp h) c
    · rcases hcase with ⟨e1, e2⟩ | ⟨e1, x, _, e2⟩
      · rw [e2] at ha; exact k.p.ko i hi a ha
      · rw [e2, lk_put] at ha
        by_cases c : a = m
        · rw [c]; exact ⟨e1, hv⟩
        · rw [if_neg c] at ha; exact k.p.ko i hi a ha
    · rcases hcase with ⟨e1, e2⟩ | ⟨e1, x, _, e2⟩
      · rw [e2]; exact k.p.ndh i hi
      · rw [e2]; exact (k.p.ndh i hi).put _ _
    · rcases hcase with ⟨e1, e2⟩ | ⟨e1, x, hx, e2⟩
      · rw [e2] at ha; exact k.p.le i hi a z ha
      · rw [e2, lk_put] at ha
        by_cases c : a = m
        · rw [if_pos c] at ha; cases ha; rw [c]; exact hx
        · rw [if_neg c] at ha; exact k.p.le i hi a z ha
  · show Paired _ (fup g.hs i _ j) (fup g.hn i _ j)
    by_cases c : j = i
    · subst c
      rw [fup_same, fup_same]
      exact Paired.snoc (pair_ch chA (k.h.hsn j hj)) ⟨y, rfl, hy.ch chA⟩
    · rw [fup_ne c, fup_ne c]
      exact pair_ch chA (k.h.hsn j hj)
end
theorem Lens.next {g g' : Wd} {k : Nat} (ln : Lens g k) (hn : g'.n = g.n) (lo : ∀ j, j < g.n → (g'.ow j).length ≤ (g.ow j).length + 1) (lh : ∀ j, j < g.n → (g'.he j).length ≤ (g.he j).length + 1) (lhs : ∀ j, j < g.n → (g'.hs j).length ≤ (g.hs j).length + 1)
    (lys : ∀ s t, (g'.ys s t).length ≤ (g.ys s t).length + 100) : Lens g' (k + 1) :=
  ⟨fun j hj => by rw [hn] at hj; have := lo j hj; have := ln.lo j hj; omega, fun j hj => by rw [hn] at hj; have := lh j hj; have := ln.lh j hj; omega, fun j hj => by rw [hn] at hj; have := lhs j hj; have := ln.lhs j hj; omega,
    fun s t => by have := lys s t; have := ln.lys s t; omega⟩
theorem fup_len {α : Type} {f : Nat → List α} {i : Nat} {x : List α} (h : x.length ≤ (f i).length + 1) (j : Nat) : (fup f i x j).length ≤ (f j).length + 1 := by
  by_cases c : j = i
  · rw [c, fup_same]; exact h
  · rw [fup_ne c]; exact Nat.le_succ _
theorem fup2_len {α : Type} {f : Nat → Nat → List α} {s t : Nat} {x : List α} {d : Nat} (h : x.length ≤ (f s t).length + d) (i j : Nat) : (fup2 f s t x i j).length ≤ (f i j).length + d := by
  by_cases c : i = s ∧ j = t
  · obtain ⟨rfl, rfl⟩ := c
    rw [fup2_same]; exact h
  · rw [fup2_ne c]; exact Nat.le_add_right _ _
theorem s_rh : decide (V.str "renew" = V.str "hand") = false := by decide +kernel
theorem s_lh : decide (V.str "lent" = V.str "hand") = false := by decide +kernel
section
variable {P : Program} {w : World} {K : PySem.W.Frag} {mg : Str → Option Value} {base : Heap}
theorem scDone : FnScope ["_law_web_here", "_law_way", "_law_body", "_law_to"] ["_law_web_here", "_law_way"] (defScope sDone) := ⟨rfl, rfl, rfl, by decide +kernel, rfl, by decide +kernel, by decide +kernel⟩
def spDone (C : Addr) : Sp := fun vs H Q _ => ∃ (g : Wd) (k s t : Nat) (wy : Addr), vs = [.ref g.w, .ref wy] ∧ WIn C H g k ∧ H wy = some (.tup [.int (s : Int), .int (t : Int)]) ∧ s < g.n ∧ t < g.n ∧ s ≠ t ∧ g.ys s t ≠ [] ∧ k ≤ 60 ∧ Post C g k H Q
theorem ok_done (T : TX K mg) : FnOk P w K mg base CX0 5 T.aDone T.dDone ["_law_web_here", "_law_way"] (spDone T.C) := by
  have GT : FnOk P w K mg base CX0 4 T.aTake T.dTake ["self", "sender", "body"] (spTake T.C) := ok_take T
  have GG : FnOk P w K mg base CX0 3 T.aGot T.dGot ["self", "name", "extra"] (spGot T.C) := ok_got T
  have GW : FnOk P w K mg base CX0 1 T.aWri T.dWri ["_law_web_here", "_law_sender", "_law_letters"] (spWri T.C) := ok_wri T
  have GC : FnOk P w K mg base CX0 1 T.aComes T.dComes ["_law_web_here", "_law_body"] (spComes T.C) := ok_comes T
  refine T.FDone.ok scDone (fun vs H Q E h => ?_) (fun cdv A outer s H vs Q E hr h => ?_)
  · obtain ⟨g, k, s, t, wy, rfl, _⟩ := h
    rfl
  · obtain ⟨g, k, s, t, wy, rfl, W, hwy, hs, ht, hst, hne, hk, post⟩ := h
    have hu := hu_of hr
    have hu5 := hu65 hr
    have hr1 : Room 1 _ := hr.mono (by decide)
    have hr3 : Room 3 _ := hr.mono (by decide)
    refine ⟨_, pss_cons (ps_set (i := 2) scDone.nd rfl (Or.inl rfl) (pe_bm PySem.F.plainAttrs_list PySem.F.slot_list_pop PySem.F.type_list_pop mt_popAt (pe_dget hu (pe_dget hu (pv 0) pe_str (fun _ _ => rfl)) (pv 1) (fun _ _ => rfl)) (pa_cons pe_int pa_nil)))
      (pss_cons (ps_set (i := 3) scDone.nd rfl (Or.inl rfl) (pe_ix ix_tup (pv 1) pe_int (fun _ _ => rfl)))
      (pss_one (ps_if (pt_cmpR op_ne (pe_ix ix_tup (pv 2) pe_int (fun _ _ => rfl)) pe_str (nomark _))
        (pss_one (ps_expr (pe_call GW hr1 (by rfl) T.gWri T.FWri.kp (bWri T) .nil pass0 (pa_cons (pv 0) (pa_cons (pv 3) (pa_cons
          (pe_meth (pe_ix ix_list (pe_dget hu (pv 0) pe_str (fun _ _ => rfl)) (pv 3) (fun _ _ => rfl)) T.cl T.mTake GT hr (bTake T) .nil pass0 (pa_cons (pe_ix ix_tup (pv 1) pe_int (fun _ _ => rfl)) (pa_cons (pv 2) pa_nil))) pa_nil))))))
        (pss_one (ps_if (pt_val (pe_call GC hr1 (by rfl) T.gComes T.FComes.kp (bComes T) .nil pass0 (pa_cons (pv 0) (pa_cons (pv 2) pa_nil))))
          (pss_cons (ps_expr (pe_meth (pe_ix ix_list (pe_dget hu (pv 0) pe_str (fun _ _ => rfl)) (pv 3) (fun _ _ => rfl)) T.cl T.mGot GG hr3 (bGot T) .nil pass0 (pa_cons (pe_ix ix_tup (pv 2) pe_int (fun _ _ => rfl)) (pa_cons (pe_ix ix_tup (pv 2) pe_int (fun _ _ => rfl)) pa_nil))))
          (pss_one (ps_if (pt_cmpR (op_notInD hu5) (pe_ix ix_tup (pv 2) pe_int (fun _ _ => rfl)) (pe_dget hu (pe_dget hu (pv 0) pe_str (fun _ _ => rfl)) (pv 3) (fun _ _ => rfl)) (by rfl))
            (pss_one (ps_expr (pe_bm PySem.F.plainAttrs_list PySem.F.slot_list_append PySem.F.type_list_append mt_append (pe_dget hu (pe_dget hu (pv 0) pe_str (fun _ _ => rfl)) (pv 3) (fun _ _ => rfl)) (pa_cons (pe_ix ix_tup (pv 2) pe_int (fun _ _ => rfl)) pa_nil)))) pss_nil))) pss_nil))))), ?_⟩
    have B := W.wk.b
    obtain ⟨v, r, hvr⟩ : ∃ v r, g.ys s t = v :: r := by
      cases e : g.ys s t with
      | nil => exact absurd e hne
      | cons v r => exact ⟨v, r, rfl⟩
    have hl := B.lY hs ht hst
    rw [hvr] at hl
    refine ⟨_, rfl, g.w, _, rfl, B.gY, _, rfl, g.aY, _, rfl, B.gYa hs ht hst hwy, .inl ⟨rfl, _, SqL.of hl⟩, g.ya s t, v :: r, 0, 0, v, rfl, rfl, hl, by decide, by decide, by show seqIndex? 0 (r.length + 1) = some 0; unfold seqIndex?; simp, rfl, ?_⟩
    obtain ⟨wk1, cw1⟩ := W.wk.shift hs ht hst hvr
    have hv := W.wk.h.ls s t hs ht hst v (by rw [hvr]; exact List.mem_cons_self ..)
    have ch0 := cw1.ch
    show tSeq _ _ _ _ (upd H (g.ya s t) (.lst r))
    generalize hH1 : upd H (g.ya s t) (.lst r) = H1 at wk1 cw1 ch0
    have hway := ch0.tups _ _ hwy
    have lsh : ∀ s' t', (fup2 g.ys s t r s' t').length ≤ (g.ys s' t').length + 0 := fun s' t' => fup2_len (by rw [hvr]; exact Nat.le_succ _) s' t'
    obtain ⟨q, y, m, rfl, hvalid, hy, hcase⟩ := hv.ch ch0
    refine ⟨_, rfl, wy, _, _, _, rfl, rfl, SqT.of hway, atI_nat (j := 1) rfl, ?_⟩
    have B1 := wk1.b
    have L1 : Link { g with ys := fup2 g.ys s t r } := W.lk.ow _ _ _ _ _
    have pt := B1.c.part ht
    have en : g.pn t = g.now := W.lk.pn t ht
    have lhe := W.ln.lh t ht
    have low := W.ln.lo t ht
    have nownL : ∀ {l : Addr}, H1 l = none → ¬ ({ g with ys := fup2 g.ys s t r } : Wd).own l := fun e => B1.c.not_own e
    rcases hcase with ⟨x, hq | hq, hx⟩ | ⟨hq, hmt⟩
    · -- a name handed on
      refine ⟨_, rfl, q, _, _, _, rfl, rfl, SqT.of hq, atI_nat (j := 0) rfl, rfl, _, rfl, ?_⟩
      rw [decide_eq_true (show V.str "hand" = V.str "hand" from rfl)]
      refine iteF ?_
      refine ⟨_, rfl, _, rfl, { g with ys := fup2 g.ys s t r }, q, y, "hand", x, rfl, B1, hq, _, rfl, ?_⟩
      refine ite2 (fun hc => ?_) (fun hc => ?_)
      · have hnow : g.now ≤ x := of_decide_eq_true hc
        refine ⟨_, rfl, g.w, _, rfl, B1.gP, _, rfl, g.aP, _, _, _, rfl, rfl, SqL.of (B1.lP L1), atI_nat (range_at ht), g.pa t, _, _, rfl, pt.ob, no_meth (by decide +kernel), _, rfl, q, _, _, _, rfl, rfl, SqT.of hq, atI_nat (j := 1) rfl, _, rfl, q, _, _, _, rfl, rfl, SqT.of hq, atI_nat (j := 2) rfl,
          g.pa t, y, m, g.pq t, t, g.pn t, x, g.ow t, g.he t, rfl, pt, hy, by omega, fun H2 he2 p2 c2 h1 h2 _ => ?_⟩
        have cc2 := B1.c.setE ht c2 p2
        have B2 : Wb T.C H2 { g with ys := fup2 g.ys s t r, he := fup g.he t he2 } := ⟨cc2, B1.t.ow _ _ _ _ _⟩
        have hq2 := c2.tups _ _ hq
        have hy2 := hy.ch c2
        have hsn2 := pair_ch c2 (wk1.h.hsn t ht)
        refine ⟨_, rfl, q, _, _, _, rfl, rfl, SqT.of hq2, atI_nat (j := 1) rfl, _, rfl, g.w, _, rfl, B2.gH, _, rfl, g.aB, _, rfl, B2.gB ht, pD m, (g.hn t).map pD, dp_nm hy2, .lst (SqL.of (B2.lB ht)) (dp_nms hsn2), pD_shaped m, pDs_shaped _, _, rfl, ?_⟩
        rw [pD_any]
        have hL : he2.length ≤ (g.he t).length + 1 := by
          by_cases own : m.1 = (t : Int)
          · rw [h1 own]; exact Nat.le_succ _
          · rw [h2 own]; exact ptb_len _ _ _
        by_cases hin : m ∈ g.hn t
        · rw [decide_eq_true hin]
          refine iteF ?_
          by_cases own : m.1 = (t : Int)
          · rw [h1 own] at p2
            obtain ⟨wk3, cw3⟩ := wk1.heId ht c2 p2
            exact post H2 _ ⟨wk3, L1, W.ln.next rfl (fun _ _ => Nat.le_succ _) (fun _ _ => Nat.le_succ _) (fun _ _ => Nat.le_succ _) fun s' t' => by have := lsh s' t'; show (fup2 g.ys s t r s' t').length ≤ _; omega⟩ (cw1.trans cw3)
          · obtain ⟨z, hz⟩ := Option.isSome_iff_exists.mp ((wk1.p.kn t ht m own).mpr hin)
            have e2 := h2 own
            rw [hz] at e2
            have hX : (if x > (some z).getD (-1) then x else (some z).getD (-1)) ≤ Lf g.ow m := by
              split
              · exact hx
              · exact wk1.p.le t ht m z hz
            rw [e2] at p2
            obtain ⟨wk3, cw3⟩ := wk1.hePut ht hin own hX c2 p2
            exact post H2 _ ⟨wk3, L1.ow _ _ _ _ _, W.ln.next rfl (fun _ _ => Nat.le_succ _) (fun j _ => fup_len (ptb_len _ _ _) j) (fun _ _ => Nat.le_succ _) fun s' t' => by have := lsh s' t'; show (fup2 g.ys s t r s' t').length ≤ _; omega⟩ (cw1.trans cw3)
        · rw [decide_eq_false hin]
          refine iteT ?_
          have hb := B2.lB ht
          refine ⟨_, rfl, g.w, _, rfl, B2.gH, _, rfl, g.aB, _, rfl, B2.gB ht, .inl ⟨rfl, _, SqL.of hb⟩, _, rfl, q, _, _, _, rfl, rfl, SqT.of hq2, atI_nat (j := 1) rfl, g.ba t, _, _, rfl, rfl, hb, ?_, ?_⟩
          · have := W.ln.lhs t ht
            show (g.hs t).length < _
            rw [sizeLine_eq]; omega
          · have hcs : (m.1 = (t : Int) ∧ he2 = g.he t) ∨ (m.1 ≠ (t : Int) ∧ ∃ x, x ≤ Lf g.ow m ∧ he2 = ptb (g.he t) m x) := by
              by_cases own : m.1 = (t : Int)
              · exact .inl ⟨own, h1 own⟩
              · refine .inr ⟨own, _, ?_, h2 own⟩
                have hz : lk (g.he t) m = none := by
                  cases e : lk (g.he t) m with
                  | none => rfl
                  | some z => exact absurd ((wk1.p.kn t ht m own).mp (by show (lk (g.he t) m).isSome = true; rw [e]; rfl)) hin
                rw [hz]
                have n0 := wk1.p.now0
                show (if x > -1 then x else -1) ≤ _
                rw [if_pos (show x > -1 from by have n1 : 0 ≤ g.now := n0; omega)]
                exact hx
            obtain ⟨wk3, cw3⟩ := wk1.arrive ht hvalid hy hin c2 p2 hcs rfl
            refine post _ _ ⟨wk3, L1.ow _ _ _ _ _, W.ln.next rfl (fun _ _ => Nat.le_succ _) (fun j _ => fup_len hL j) (fun j _ => fup_len (by rw [List.length_append]; exact Nat.le_refl _) j) fun s' t' => by have := lsh s' t'; show (fup2 g.ys s t r s' t').length ≤ _; omega⟩ (cw1.trans cw3)
      · exact post H1 _ ⟨wk1, L1, W.ln.next rfl (fun _ _ => Nat.le_succ _) (fun _ _ => Nat.le_succ _) (fun _ _ => Nat.le_succ _) fun s' t' => by have := lsh s' t'; show (fup2 g.ys s t r s' t').length ≤ _; omega⟩ cw1
    · -- a lease lent
      refine ⟨_, rfl, q, _, _, _, rfl, rfl, SqT.of hq, atI_nat (j := 0) rfl, rfl, _, rfl, ?_⟩
      rw [s_lh]
      refine iteT ?_
      refine ⟨_, rfl, _, rfl, _, rfl, g.w, _, rfl, B1.gP, _, rfl, g.aP, _, _, _, rfl, rfl, SqL.of (B1.lP L1), atI_nat (range_at ht), g.pa t, _, _, rfl, pt.ob, no_meth (by decide +kernel), _, rfl, wy, _, _, _, rfl, rfl, SqT.of hway, atI_nat (j := 0) rfl, _, rfl,
        g.pa t, q, y, m, g.pq t, t, g.pn t, s, g.ow t, g.he t, rfl, pt, hy, by omega, by omega, .inr ⟨x, hq, fun c => (wk1.p.ko t ht m c).1, fun H2 l he2 p2 c2 nl hl2 h1 h2 => ?_⟩⟩
      have fin : ∃ he3 : Nat → Tb, Wk T.C H2 { g with ys := fup2 g.ys s t r, he := he3 } ∧ Chw { g with ys := fup2 g.ys s t r } { g with ys := fup2 g.ys s t r, he := he3 } H1 H2 ∧ ∀ j, (he3 j).length ≤ (g.he j).length + 1 := by
        cases e : lk (g.he t) m with
        | none =>
          rw [h1 e] at p2
          obtain ⟨wk3, cw3⟩ := wk1.heId ht c2 p2
          exact ⟨g.he, wk3, cw3, fun _ => Nat.le_succ _⟩
        | some z =>
          have sm : (lk (g.he t) m).isSome = true := by rw [e]; rfl
          have own := (wk1.p.ko t ht m sm).1
          have hX : (if x > z then x else z) ≤ Lf g.ow m := by
            split
            · exact hx
            · exact wk1.p.le t ht m z e
          rw [h2 z e] at p2
          obtain ⟨wk3, cw3⟩ := wk1.hePut ht ((wk1.p.kn t ht m own).mp sm) own hX c2 p2
          exact ⟨_, wk3, cw3, fun j => fup_len (ptb_len _ _ _) j⟩
      obtain ⟨he3, wk3, cw3, hlen3⟩ := fin
      have nl3 : ¬ ({ g with ys := fup2 g.ys s t r, he := he3 } : Wd).own l := fun ⟨a, da, qa⟩ => nownL nl ⟨a, by cases a <;> exact da, by rw [qa]; cases a <;> rfl⟩
      refine ⟨{ g with ys := fup2 g.ys s t r, he := he3 }, t, l, [], rfl, wk3, ht, hl2, nl3, (fun _ h => nomatch h), Nat.zero_le _, fun s' t' => ?_, fun H3 ys' wk4 cw4 hl4 => ?_⟩
      · have := lsh s' t'
        have := W.ln.lys s' t'
        show (fup2 g.ys s t r s' t').length ≤ _
        omega
      · exact post H3 _ ⟨wk4, L1.ow _ _ _ _ _, W.ln.next rfl (fun _ _ => Nat.le_succ _) (fun j _ => hlen3 j) (fun _ _ => Nat.le_succ _) fun s' t' => by
          have h5 : (ys' s' t').length ≤ (fup2 g.ys s t r s' t').length + 0 := hl4 s' t'
          have := lsh s' t'
          show (ys' s' t').length ≤ _
          omega⟩ ((cw1.trans cw3).trans cw4)
    · -- a new lease is wanted
      refine ⟨_, rfl, q, _, _, _, rfl, rfl, SqT.of hq, atI_nat (j := 0) rfl, rfl, _, rfl, ?_⟩
      rw [s_rh]
      refine iteT ?_
      refine ⟨_, rfl, _, rfl, _, rfl, g.w, _, rfl, B1.gP, _, rfl, g.aP, _, _, _, rfl, rfl, SqL.of (B1.lP L1), atI_nat (range_at ht), g.pa t, _, _, rfl, pt.ob, no_meth (by decide +kernel), _, rfl, wy, _, _, _, rfl, rfl, SqT.of hway, atI_nat (j := 0) rfl, _, rfl,
        g.pa t, q, y, m, g.pq t, t, g.pn t, s, g.ow t, g.he t, rfl, pt, hy, by omega, by omega, .inl ⟨hq, fun H2 l p rr p2 c2 nl hl2 hp hrr => ?_⟩⟩
      rw [en] at p2 hrr
      have p2' : PartAt T.C H2 (({ g with ys := fup2 g.ys s t r } : Wd).pa t) (g.pq t) t (g.pn t) (ptb (g.ow t) m (g.now + 8)) (g.he t) := by rw [en]; exact p2
      obtain ⟨wk3, cw3⟩ := wk1.lend ht hmt hvalid c2 p2'
      have nl3 : ¬ ({ g with ys := fup2 g.ys s t r, ow := fup g.ow t (ptb (g.ow t) m (g.now + 8)) } : Wd).own l := fun ⟨a, da, qa⟩ => nownL nl ⟨a, by cases a <;> exact da, by rw [qa]; cases a <;> rfl⟩
      refine ⟨{ g with ys := fup2 g.ys s t r, ow := fup g.ow t (ptb (g.ow t) m (g.now + 8)) }, t, l, [.ref p], rfl, wk3, ht, hl2, nl3, fun u hu => ?_, by show 1 ≤ 1000; decide, fun s' t' => ?_, fun H3 ys' wk4 cw4 hl4 => ?_⟩
      · rw [List.mem_singleton.mp hu]
        refine ⟨p, .ref rr, s, rfl, hp, hs, Ne.symm hst, rr, y, m, rfl, hvalid, hy.ch c2, .inl ⟨g.now + 8, .inr hrr, ?_⟩⟩
        show _ ≤ Lf (fup g.ow t (ptb (g.ow t) m (g.now + 8))) m
        rw [Lf_lend hmt, if_pos rfl]
        exact Int.le_refl _
      · have := lsh s' t'
        have := W.ln.lys s' t'
        show (fup2 g.ys s t r s' t').length ≤ _
        omega
      · exact post H3 _ ⟨wk4, L1.ow _ _ _ _ _, W.ln.next rfl (fun j _ => fup_len (ptb_len _ _ _) j) (fun _ _ => Nat.le_succ _) (fun _ _ => Nat.le_succ _) fun s' t' => by
          have h5 : (ys' s' t').length ≤ (fup2 g.ys s t r s' t').length + 1 := hl4 s' t'
          have := lsh s' t'
          show (ys' s' t').length ≤ _
          omega⟩ ((cw1.trans cw3).trans cw4)
theorem bDone (T : TX K mg) : Binds K T.dDone ["_law_web_here", "_law_way"] [] := T.FDone.binds (ps := ["_law_web_here", "_law_way"]) fun _ _ _ _ _ _ us hl => match us, hl with | [_, _], _ => rfl
end
end K48

/-! some_done -/
namespace K48
open PySem PySem.Spec PyProof.Rows L2
/-! ### letters as data -/
theorem dpAll_of {K : PySem.W.Frag} {H : Hp} : ∀ {vs : List V}, (∀ v ∈ vs, ∃ d, Dp K H v d ∧ d.canLay0 = true ∧ d.depth ≤ 5) → ∃ ds, DpAll K H vs ds ∧ ds.length = vs.length ∧ SeqAt.shaped (.list ds) = true
  | [], _ => ⟨[], .nil, rfl, by decide⟩
  | v :: r, h => by
    obtain ⟨d, h1, h2, h3⟩ := h v (List.mem_cons_self ..)
    obtain ⟨ds, i1, i2, i3⟩ := dpAll_of (vs := r) fun u hu => h u (List.mem_cons_of_mem _ hu)
    refine ⟨d :: ds, .cons h1 i1, by rw [List.length_cons, List.length_cons, i2], ?_⟩
    have i3' : (PyData.canLay0 (.list ds) && decide (PyData.depth (.list ds) ≤ 64)) = true := i3
    rw [Bool.and_eq_true] at i3'
    obtain ⟨j1, j2⟩ := i3'
    have j2 := of_decide_eq_true j2
    show (PyData.canLay0 (.list (d :: ds)) && decide (PyData.depth (.list (d :: ds)) ≤ 64)) = true
    rw [Bool.and_eq_true]
    simp only [PyData.canLay0, PyData.canLayAll0, PyData.depth, PyData.depthAll] at j1 j2 ⊢
    exact ⟨by rw [h2, j1]; rfl, decide_eq_true (by omega)⟩
theorem eqv_nil (ds : List PyData) : PyData.eqv (.list ds) (.list []) = ds.isEmpty := by
  cases ds <;> simp [PyData.eqv, PyData.eqvAll]
theorem so_h : PyData.strOk "hand" = true := by decide +kernel
theorem so_l : PyData.strOk "lent" = true := by decide +kernel
theorem so_r : PyData.strOk "renew" = true := by decide +kernel
theorem dp_let {K : PySem.W.Frag} {H : Hp} {n : Nat} {ow : Nat → Tb} {t : Nat} {v : V} (h : LetOk H n ow t v) : ∃ d, Dp K H v d ∧ d.canLay0 = true ∧ d.depth ≤ 5 := by
  obtain ⟨q, y, m, rfl, _, hy, h⟩ := h
  rcases h with ⟨x, h | h, _⟩ | ⟨h, _⟩
  · exact ⟨.tuple [.str "hand", pD m, .int x], .tup (SqT.of h) (.cons (.str _) (.cons (dp_nm hy) (.cons (.int _) .nil))), by simp only [PyData.canLay0, PyData.canLayAll0, pD, so_h, so_l, so_r]; rfl, by simp [PyData.depth, PyData.depthAll, pD]⟩
  · exact ⟨.tuple [.str "lent", pD m, .int x], .tup (SqT.of h) (.cons (.str _) (.cons (dp_nm hy) (.cons (.int _) .nil))), by simp only [PyData.canLay0, PyData.canLayAll0, pD, so_h, so_l, so_r]; rfl, by simp [PyData.depth, PyData.depthAll, pD]⟩
  · exact ⟨.tuple [.str "renew", pD m], .tup (SqT.of h) (.cons (.str _) (.cons (dp_nm hy) .nil)), by simp only [PyData.canLay0, PyData.canLayAll0, pD, so_h, so_l, so_r]; rfl, by simp [PyData.depth, PyData.depthAll, pD]⟩
mutual
theorem dp_same {K : PySem.W.Frag} {H H' : Hp} (s : Same H H') : ∀ (d : PyData) (v : V), Dp K H v d → Dp K H' v d
  | .none, _, h => by cases h; exact .non
  | .bool _, _, h => by cases h; exact .bl _
  | .int _, _, h => by cases h; exact .int _
  | .str _, _, h => by cases h; exact .str _
  | .list ds, _, h => by
    cases h with
    | lst a b => exact .lst (s.seq a) (dpAll_same' s ds _ b)
  | .tuple ds, _, h => by
    cases h with
    | tup a b => exact .tup (Evl.ex_t s a) (dpAll_same' s ds _ b)
  | .dict _, _, h => by cases h
theorem dpAll_same' {K : PySem.W.Frag} {H H' : Hp} (s : Same H H') : ∀ (ds : List PyData) (vs : List V), DpAll K H vs ds → DpAll K H' vs ds
  | [], _, h => by cases h; exact .nil
  | d :: ds, _, h => by
    cases h with
    | cons a b => exact .cons (dp_same s d _ a) (dpAll_same' s ds _ b)
end
theorem dpAll_same {K : PySem.W.Frag} {H H' : Hp} (s : Same H H') {ds : List PyData} {vs : List V} (h : DpAll K H vs ds) : DpAll K H' vs ds := dpAll_same' s ds vs h
theorem keysT {H : Hp} : ∀ {kvs : List (List Key × V)} {bs : List Addr}, IsKeys H kvs bs → ∀ b ∈ bs, ∃ p ∈ kvs, H b = some (.tup (p.1.map kV))
  | _, _, .nil, _, h => nomatch h
  | _, _, .cons (a := p) f r, b, h => by
    rcases List.mem_cons.mp h with e | h
    · exact ⟨p, List.mem_cons_self .., by rw [e]; exact f⟩
    · obtain ⟨q, h1, h2⟩ := keysT r b h
      exact ⟨q, List.mem_cons_of_mem _ h1, h2⟩
theorem isKeys_len {H : Hp} {kvs : List (List Key × V)} {bs : List Addr} (h : IsKeys H kvs bs) : bs.length = kvs.length := (Paired.length h).symm
def WayAt (H : Hp) (g : Wd) (v : V) : Prop := ∃ (q : Addr) (s t : Nat), v = .ref q ∧ H q = some (.tup [.int (s : Int), .int (t : Int)]) ∧ s < g.n ∧ t < g.n ∧ s ≠ t
section
variable {P : Program} {w : World} {K : PySem.W.Frag} {mg : Str → Option Value} {base : Heap}
theorem scSome : FnScope ["_law_web_here", "_law_draw", "_law_some", "_law_way"] ["_law_web_here", "_law_draw"] (defScope sSome) := ⟨rfl, rfl, rfl, by decide +kernel, rfl, by decide +kernel, by decide +kernel⟩
def spSome (C : Addr) : Sp := fun vs H Q _ => ∃ (g : Wd) (k : Nat) (d : Int), vs = [.ref g.w, .int d] ∧ WIn C H g k ∧ k ≤ 60 ∧ Post C g k H Q
theorem ok_some (T : TX K mg) : FnOk P w K mg base CX0 6 T.aSome T.dSome ["_law_web_here", "_law_draw"] (spSome T.C) := by
  have GD : FnOk P w K mg base CX0 5 T.aDone T.dDone ["_law_web_here", "_law_way"] (spDone T.C) := ok_done T
  refine T.FSome.ok scSome (fun vs H Q E h => ?_) (fun cdv A outer s H vs Q E hr h => ?_)
  · obtain ⟨g, k, d, rfl, _⟩ := h
    rfl
  · obtain ⟨g, k, d, rfl, W, hk, post⟩ := h
    have hu := hu_of hr
    have hu4 := hu64 hr
    refine ⟨_, pss_cons (ps_setLc (i := 2) (own := [("_law_way", 3)]) (g := gName 3) (tt := tTest (tOp (rNeD K) (tDGet (tDGet (tVar 0) (tC (.str "ways"))) (tVar 3)) (tLst tNil))) rfl scSome.nd rfl rfl (sw_true rfl rfl rfl (by decide +kernel))
        (pi_list (pe_callB (cr_sortedDT rfl) (by rfl) T.zSorted (by decide +kernel) (pa_cons (pe_dget hu (pv 0) pe_str (fun _ _ => rfl)) pa_nil)))
        (blkOk_by (own := [("_law_way", 3)]) (N := ["_law_web_here", "_law_draw", "_law_some", "_law_way"]) (sc := defScope sSome) (by decide +kernel)) (fun _ _ _ _ _ => pg_name (i := 3) scSome.nd rfl (Or.inl rfl))
        (fun _ _ _ _ _ => pts_one (pt_cmpR (r := rNeD K) (op_neD hu4) (pe_dget hu (pe_dget hu (pv 0) pe_str (fun _ _ => rfl)) (pv 3) (fun _ _ => rfl)) (pe_lst pa_nil) (nomark _)))
        (fun _ _ _ _ _ => pv 3))
      (pss_one (ps_if (pt_cmpR (op_neD hu4) (pv 2) (pe_lst pa_nil) (nomark _))
        (pss_one (ps_expr (pe_call GD hr (by rfl) T.gDone T.FDone.kp (bDone T) .nil pass0 (pa_cons (pv 0) (pa_cons (pe_ix ix_list (pv 2) (pe_op op_mod (pv 1) (pe_callB call_len_seq (by rfl) T.zLen PySem.boot_len (pa_cons (pv 2) pa_nil))) (fun _ _ => rfl)) pa_nil))))) pss_nil)), ?_⟩
    have B := W.wk.b
    refine ⟨_, rfl, g.w, _, rfl, B.gY, g.aY, g.ky, rfl, .inl (B.c.cell .way True.intro), fun p hp => ?_, fun M bs ys nM hkk hp => ?_⟩
    · obtain ⟨s, t, _, _, _, e⟩ := B.t.kyk p hp
      exact ⟨s, t, e⟩
    have kys := keysT hkk
    have hys : ∀ y ∈ ys, WayAt H g (.ref y) := fun y hy => by
      obtain ⟨p, h1, h2⟩ := kys y (hp.mem_iff.mp hy)
      obtain ⟨s, t, hs, ht, hst, e⟩ := B.t.kyk p h1
      rw [e] at h2
      exact ⟨y, s, t, rfl, h2, hs, ht, hst⟩
    have lys : ys.length = g.ky.length := by rw [hp.length_eq, isKeys_len hkk]
    obtain ⟨zk, _⟩ : g.ky.length < 16777216 ∧ True := ⟨by have := B.t.ly; omega, True.intro⟩
    have s1 := Same.new (o := .lst (ys.map V.ref)) nM
    refine ⟨M, rfl, ⟨_, SqL.of upd_same⟩, fun D nD => ?_⟩
    have DM : M ≠ D := fun c => by rw [← c, upd_same] at nD; cases nD
    have nD' : H D = none := by rw [upd_ne DM.symm] at nD; exact nD
    refine lc_list (K := K) (a := M) (xs := ys.map V.ref) (fun i H2 => ∃ acc, H2 D = some (.lst acc) ∧ acc.length ≤ i ∧ (∀ v ∈ acc, ∃ (q : Addr) (s t : Nat), v = .ref q ∧ H2 q = some (.tup [.int (s : Int), .int (t : Int)]) ∧ s < g.n ∧ t < g.n ∧ s ≠ t ∧ g.ys s t ≠ []) ∧ Same (upd H M (.lst (ys.map V.ref))) H2)
      ⟨[], upd_same, Nat.le_refl _, (fun _ h => nomatch h), Same.new nD⟩ (fun i H2 _ ⟨_, _, _, _, s⟩ => SqL.of (s _ _ upd_same)) ?_ ?_
    · rintro i x H2 hi ⟨acc, hD, hal, hacc, s⟩
      obtain ⟨b, hb, rfl⟩ := map_get hi
      have hi' : i < ys.length := (List.getElem?_eq_some_iff.mp hb).1
      obtain ⟨q, s0, t0, eq0, hq, hs, ht, hst⟩ := hys b (List.mem_of_getElem? hb)
      cases eq0
      have sH2 : Same H H2 := s1.trans s
      have B2 := B.same sH2
      have hq2 := sH2 _ _ hq
      obtain ⟨ds, hds, dl, dsh⟩ := dpAll_of (K := K) (H := H2) (vs := g.ys s0 t0) fun v hv => dp_let ((W.wk.h.ls s0 t0 hs ht hst v hv).same sH2)
      refine ⟨rfl, _, rfl, g.w, _, rfl, B2.gY, _, rfl, g.aY, _, rfl, B2.gYa hs ht hst hq2, Nat.zero_le _, fun e ne => ?_⟩
      have s3 := Same.new (o := .lst []) ne
      have sA : Same H2 (upd H2 e (.lst [])) := s3
      have hds3 : DpAll K (upd H2 e (.lst [])) (g.ys s0 t0) ds := dpAll_same s3 hds
      refine ⟨.list ds, .list [], .lst (SqL.of (s3 _ _ (B2.lY hs ht hst))) hds3, .lst (SqL.of upd_same) .nil, dsh, by decide, _, rfl, ?_⟩
      rw [eqv_nil]
      have hD3 := s3 _ _ hD
      have hacc3 : ∀ v ∈ acc, ∃ (q : Addr) (s t : Nat), v = .ref q ∧ upd H2 e (.lst []) q = some (.tup [.int (s : Int), .int (t : Int)]) ∧ s < g.n ∧ t < g.n ∧ s ≠ t ∧ g.ys s t ≠ [] := fun v hv => by
        obtain ⟨q, s', t', a1, a2, a3⟩ := hacc v hv
        exact ⟨q, s', t', a1, s3 _ _ a2, a3⟩
      cases ed : ds.isEmpty with
      | true => exact ⟨acc, hD3, Nat.le_succ_of_le hal, hacc3, s.trans s3⟩
      | false =>
        refine ⟨_, rfl, acc, hD3, by rw [sizeLine_eq]; omega, acc ++ [.ref b], upd_same, by rw [List.length_append]; exact Nat.succ_le_succ hal, fun v hv => ?_, fun b' o' e' => ?_⟩
        · have cD := Ch.upd (F := fun b => b = D) (o := .lst (acc ++ [.ref b])) rfl hD3 (fun xs z => nomatch z)
          rcases List.mem_append.mp hv with hv | hv
          · obtain ⟨q, s', t', a1, a2, a3⟩ := hacc3 v hv
            exact ⟨q, s', t', a1, cD.tups _ _ a2, a3⟩
          · refine ⟨b, s0, t0, List.mem_singleton.mp hv, cD.tups _ _ (s3 _ _ hq2), hs, ht, hst, fun z => ?_⟩
            rw [z] at dl
            have : ds = [] := List.length_eq_zero_iff.mp dl
            rw [this] at ed
            cases ed
        · have nb : b' ≠ D := fun c => by rw [c, nD] at e'; cases e'
          rw [upd_ne nb]
          exact s3 _ _ (s _ _ e')
    · rintro H2 ⟨acc, hD, hal, hacc, s⟩
      have sH2 : Same H H2 := s1.trans s
      obtain ⟨ds, hds, dl, dsh⟩ := dpAll_of (K := K) (H := H2) (vs := acc) fun v hv => by
        obtain ⟨q, s', t', a1, a2, a3⟩ := hacc v hv
        rw [a1]
        have hN : NmT H2 q ((s' : Int), (t' : Int)) := a2
        exact ⟨pD ((s' : Int), (t' : Int)), dp_nm hN, pD_lay _, Nat.le_trans (pD_depth _) (by decide)⟩
      refine ⟨_, rfl, Nat.zero_le _, fun e ne => ?_⟩
      have s3 := Same.new (o := .lst []) ne
      refine ⟨.list ds, .list [], .lst (SqL.of (s3 _ _ hD)) (dpAll_same s3 hds), .lst (SqL.of upd_same) .nil, dsh, by decide, _, rfl, ?_⟩
      rw [eqv_nil]
      have W3 := W.same (sH2.trans s3)
      have cw3 := Chw.same (g := g) (sH2.trans s3)
      cases ed : ds.isEmpty with
      | true =>
        exact post _ g ⟨W3.wk, W3.lk, W3.ln.next rfl (fun _ _ => Nat.le_succ _) (fun _ _ => Nat.le_succ _) (fun _ _ => Nat.le_succ _) fun _ _ => Nat.le_add_right _ _⟩ cw3
      | false =>
        have hpos : 0 < acc.length := by
          rw [← dl]
          cases ds with
          | nil => cases ed
          | cons _ _ => exact Nat.succ_pos _
        have m1 : 0 ≤ d % (acc.length : Int) := Int.emod_nonneg _ (by omega)
        have m2 : d % (acc.length : Int) < (acc.length : Int) := Int.emod_lt_of_pos _ (by omega)
        obtain ⟨j, ej⟩ : ∃ j : Nat, d % (acc.length : Int) = (j : Int) := ⟨(d % (acc.length : Int)).toNat, by omega⟩
        have hj : j < acc.length := by omega
        obtain ⟨q, s', t', a1, a2, hs, ht, hst, hne⟩ := hacc acc[j] (List.getElem_mem hj)
        have hD3 := s3 _ _ hD
        refine ⟨_, rfl, _, rfl, _, rfl, _, rfl, D, _, rfl, .inl (SqL.of hD3), _, _, rfl, rfl, by omega, D, acc, _, _, rfl, rfl, SqL.of hD3, at_of ej (List.getElem?_eq_getElem hj), ?_⟩
        rw [a1]
        exact ⟨g, k, s', t', q, rfl, W3, s3 _ _ a2, hs, ht, hst, hne, hk, fun H' g' w' c' => post H' g' w' (cw3.trans c')⟩
theorem bSome (T : TX K mg) : Binds K T.dSome ["_law_web_here", "_law_draw"] [] := T.FSome.binds (ps := ["_law_web_here", "_law_draw"]) fun _ _ _ _ _ _ us hl => match us, hl with | [_, _], _ => rfl
end
end K48

/-! kept -/
namespace K48
open PySem PySem.Spec PyProof.Rows L2
theorem len_putK {κ : Type} [DecidableEq κ] {kvs : List (κ × V)} {k : κ} {v u : V} (h : valV kvs k = some u) : (putK kvs k v).length = kvs.length := by
  unfold putK
  rw [valV_any, h]
  rw [if_pos (show (some u).isSome = true from rfl), List.length_map]
section
variable {C : Addr} {H H' : Hp} {g : Wd} {i : Nat}
/-- what a house has is another list now -/
theorem Wb.newB (b : Wb C H g) (hi : i < g.n) {D : Addr} {acc : List V} (hD : H D = some (.lst acc)) (nD : ¬ g.own D) (an : List Nm) :
    Wb C (upd H g.aB (.dK (putK g.kh (.inl (i : Int)) (.ref D)))) { g with ba := fup g.ba i D, kh := putK g.kh (.inl (i : Int)) (.ref D), hs := fup g.hs i acc, hn := fup g.hn i an } := by
  have cne : ∀ l, g.dom l → g.adr l ≠ D := fun l d e => nD ⟨l, d, e.symm⟩
  have DB : D ≠ g.aB := fun e => cne .has True.intro e.symm
  refine ⟨⟨fun l d => ?_, fun l l' d d' e => ?_⟩, ?_⟩
  · have k : l ≠ .has → (∀ j, l ≠ .ba j) → g.dom l → upd H g.aB (.dK (putK g.kh (.inl (i : Int)) (.ref D))) (g.adr l) = some (g.cont C l) := fun h1 _ d1 => by
      have ne : g.adr l ≠ g.aB := fun q => h1 (b.c.inj l .has d1 True.intro q)
      rw [upd_ne ne]
      exact b.c.cell l d1
    cases l with
    | has => exact upd_same
    | ba j =>
      show upd H g.aB _ (fup g.ba i D j) = some (.lst (fup g.hs i acc j))
      by_cases e : j = i
      · rw [e, fup_same, fup_same, upd_ne DB]; exact hD
      · have ne : g.ba j ≠ g.aB := fun q => nomatch b.c.inj (.ba j) .has d True.intro q
        rw [fup_ne e, fup_ne e, upd_ne ne]
        exact b.c.cell (.ba j) d
    | web => exact k (by intro z; cases z) (by intro j z; cases z) d
    | prt => exact k (by intro z; cases z) (by intro j z; cases z) d
    | way => exact k (by intro z; cases z) (by intro j z; cases z) d
    | pa j => exact k (by intro z; cases z) (by intro j z; cases z) d
    | po j => exact k (by intro z; cases z) (by intro j z; cases z) d
    | pe j => exact k (by intro z; cases z) (by intro j z; cases z) d
    | ya s t => exact k (by intro z; cases z) (by intro j z; cases z) d
  · have old : ∀ l, ({ g with ba := fup g.ba i D, kh := putK g.kh (.inl (i : Int)) (.ref D), hs := fup g.hs i acc, hn := fup g.hn i an } : Wd).dom l → g.dom l := fun l d => by cases l <;> exact d
    have adr : ∀ l, l ≠ .ba i → ({ g with ba := fup g.ba i D, kh := putK g.kh (.inl (i : Int)) (.ref D), hs := fup g.hs i acc, hn := fup g.hn i an } : Wd).adr l = g.adr l := fun l ne => by
      cases l with
      | ba j => exact fup_ne fun e => ne (by rw [e])
      | _ => rfl
    have adI : ({ g with ba := fup g.ba i D, kh := putK g.kh (.inl (i : Int)) (.ref D), hs := fup g.hs i acc, hn := fup g.hn i an } : Wd).adr (.ba i) = D := fup_same
    by_cases c : l = .ba i
    · by_cases c' : l' = .ba i
      · rw [c, c']
      · rw [c, adI, adr l' c'] at e
        exact absurd e.symm (cne l' (old _ d'))
    · by_cases c' : l' = .ba i
      · rw [c', adI, adr l c] at e
        exact absurd e (cne l (old _ d))
      · rw [adr l c, adr l' c'] at e
        exact b.c.inj l l' (old _ d) (old _ d') e
  · refine ⟨b.t.kwN, b.t.kwP, b.t.kwY, b.t.kwH, fun j hj => ?_, b.t.ky, b.t.kyk, b.t.lw, ?_, b.t.ly, b.t.n2, b.t.n4⟩
    · show valV (putK g.kh (.inl (i : Int)) (.ref D)) (.inl (j : Int)) = some (.ref (fup g.ba i D j))
      rw [valV_put]
      by_cases e : j = i
      · rw [e, if_pos rfl, fup_same]
      · rw [if_neg fun q => e (by have := Sum.inl.inj q; omega), fup_ne e]
        exact b.t.kh j hj
    · show (putK g.kh (.inl (i : Int)) (.ref D)).length < 100
      rw [len_putK (b.t.kh i hi)]
      exact b.t.lh
end
theorem shl_ok {r : Int} (h0 : 0 ≤ r) (h7 : r < 7) : CDiv 0 (1 * 2 ^ r.toNat) := by
  have : r = 0 ∨ r = 1 ∨ r = 2 ∨ r = 3 ∨ r = 4 ∨ r = 5 ∨ r = 6 := by omega
  rcases this with rfl | rfl | rfl | rfl | rfl | rfl | rfl <;> exact ⟨by decide, by decide⟩
section
variable {P : Program} {w : World} {K : PySem.W.Frag} {mg : Str → Option Value} {base : Heap}
theorem scKept : FnScope ["_law_web_here", "_law_house", "_law_draw", "_law_still", "_law_k", "_law_name", "_law_letters"] ["_law_web_here", "_law_house", "_law_draw"] (defScope sKept) := ⟨rfl, rfl, rfl, by decide +kernel, rfl, by decide +kernel, by decide +kernel⟩
def spKept (C : Addr) : Sp := fun vs H Q _ => ∃ (g : Wd) (k i : Nat) (d : Int), vs = [.ref g.w, .int (i : Int), .int d] ∧ WIn C H g k ∧ i < g.n ∧ k ≤ 60 ∧ Post C g k H Q
theorem ok_kept (T : TX K mg) : FnOk P w K mg base CX0 2 T.aKept T.dKept ["_law_web_here", "_law_house", "_law_draw"] (spKept T.C) := by
  have GL : FnOk P w K mg base CX0 1 T.aLet T.dLet ["self", "still"] (spLet T.C) := ok_letgo T
  have GW : FnOk P w K mg base CX0 1 T.aWri T.dWri ["_law_web_here", "_law_sender", "_law_letters"] (spWri T.C) := ok_wri T
  refine T.FKept.ok scKept (fun vs H Q E h => ?_) (fun cdv A outer s H vs Q E hr h => ?_)
  · obtain ⟨g, k, i, d, rfl, _⟩ := h
    rfl
  · obtain ⟨g, k, i, d, rfl, W, hi, hk, post⟩ := h
    have hu := hu_of hr
    refine ⟨_, pss_cons (ps_set (i := 3) scKept.nd rfl (Or.inl rfl) (pe_lst pa_nil))
      (pss_cons (ps_for PassesOwn.never rfl (pi_enum (by rfl) T.zEnum (pa_cons (pe_callB cr_sortedP (by rfl) T.zSorted (by decide +kernel) (pa_cons (pe_dget hu (pe_dget hu (pv 0) pe_str (fun _ _ => rfl)) (pv 1) (fun _ _ => rfl)) pa_nil)) pa_nil))
          (pg_tup (by rfl) (pgs_cons (pg_name (i := 4) scKept.nd rfl (Or.inl rfl)) (pgs_cons (pg_name (i := 5) scKept.nd rfl (Or.inl rfl)) pgs_nil)))
        (pss_one (ps_if (PW.pt (pw_or (pt_cmpR op_eq (pe_ix ix_tup (pv 5) pe_int (fun _ _ => rfl)) (pv 1) (nomark _))
            (pw_or1 (pt_cmpR op_eq (pe_op op_mod (pe_op op_fdiv (pv 2) (pe_op op_shl pe_int (pe_op op_mod (pv 4) pe_int))) pe_int) pe_int (nomark _)))))
          (pss_one (ps_expr (pe_bm PySem.F.plainAttrs_list PySem.F.slot_list_append PySem.F.type_list_append mt_append (pv 3) (pa_cons (pv 5) pa_nil)))) pss_nil)))
      (pss_cons (ps_dput hu (pe_dget hu (pv 0) pe_str (fun _ _ => rfl)) (pv 1) (pv 3) rfl)
      (pss_cons (ps_set (i := 6) scKept.nd rfl (Or.inl rfl) (pe_meth (pe_ix ix_list (pe_dget hu (pv 0) pe_str (fun _ _ => rfl)) (pv 1) (fun _ _ => rfl)) T.cl T.mLet GL hr (bLet T) .nil pass0
          (pa_cons (pe_callTy call_tuple_of (by rfl) T.zTuple (by decide +kernel) (pa_cons
            (pe_lc (own := [("_law_name", 5)]) (g := gName 5) (tt := tTest (tOp rNe (tOp (rIxT K) (tVar 5) (tC (.int 0))) (tVar 1))) rfl scKept.nd (pi_list (pv 3))
              (blkOk_by (own := [("_law_name", 5)]) (N := ["_law_web_here", "_law_house", "_law_draw", "_law_still", "_law_k", "_law_name", "_law_letters"]) (sc := defScope sKept) (by decide +kernel)) (fun _ _ _ _ _ => pg_name (i := 5) scKept.nd rfl (Or.inl rfl))
              (fun _ _ _ _ _ => pts_one (pt_cmpR op_ne (pe_ix (r := rIxT K) ix_tup (pv 5) pe_int (fun _ _ => rfl)) (pv 1) (nomark _))) (fun _ _ _ _ _ => pv 5)) pa_nil)) pa_nil)))
      (pss_one (ps_expr (pe_call GW hr (by rfl) T.gWri T.FWri.kp (bWri T) .nil pass0 (pa_cons (pv 0) (pa_cons (pv 1) (pa_cons (pv 6) pa_nil))))))))), ?_⟩
    have B := W.wk.b
    refine ⟨Nat.zero_le _, fun D nD => ?_⟩
    have s0 := Same.new (o := .lst []) nD
    have B0 := B.same s0
    have hsn := W.wk.h.hsn i hi
    have hitem : ∀ x ∈ g.hs i, ∃ (t : Addr) (a b : Int), x = V.ref t ∧ upd H D (.lst []) t = some (.tup [.int a, .int b]) := fun x hx => by
      obtain ⟨j, hj⟩ := List.mem_iff_getElem?.mp hx
      obtain ⟨m, _, t, e, ht⟩ := pair_getL hsn hj
      exact ⟨t, m.1, m.2, e, s0 _ _ ht⟩
    refine ⟨_, rfl, g.w, _, rfl, B0.gH, _, rfl, g.aB, _, rfl, B0.gB hi, g.ba i, g.hs i, rfl, SqL.of (B0.lB hi), hitem, fun ys M hp nM => ?_⟩
    have s1 := Same.new (o := .lst ys) nM
    have sM := s0.trans s1
    have DM : D ≠ M := fun e => by rw [← e, upd_same] at nM; cases nM
    refine ⟨M, ys, rfl, SqL.of upd_same, for_it (walk_enum (K := K) (a := M) (xs := ys)) (fun j σ H' => ∃ (acc : List V) (an : List Nm) (v4 v5 : Option V), σ = [some (.ref g.w), some (.int (i : Int)), some (.int d), some (.ref D), v4, v5, none] ∧ H' D = some (.lst acc) ∧ Paired (NmAt H') acc an ∧
        (∀ m ∈ an, m ∈ g.hn i) ∧ acc.length ≤ j ∧ Same H H' ∧ H' M = some (.lst ys) ∧ ∀ l m, l < j → (∃ v, ys[l]? = some v ∧ NmAt H v m) → m.1 = (i : Int) → m ∈ an)
      ⟨[], [], none, none, rfl, s1 _ _ upd_same, .nil, (fun _ h => nomatch h), Nat.zero_le _, sM, upd_same, fun _ _ h => absurd h (Nat.not_lt_zero _)⟩ (fun j σ H' _ ⟨_, _, _, _, _, _, _, _, _, _, hM, _⟩ => SqL.of hM) ?_ ?_⟩
    · rintro j x σ H1 H2 hj ⟨acc, an, v4, v5, rfl, hD, hacc, han, hal, s, hM, hown⟩ ⟨U, a1, a2, rfl, nU, rfl, e1, e2⟩
      cases e1
      have e2 : ys[j]? = some a2 := e2
      have hx : a2 ∈ g.hs i := hp.mem_iff.mp (List.mem_of_getElem? e2)
      obtain ⟨l, hl⟩ := List.mem_iff_getElem?.mp hx
      obtain ⟨m, hm, y, rfl, hy⟩ := pair_getL hsn hl
      have hmn := List.mem_of_getElem? hm
      have s2 := Same.new (o := .tup [.int (j : Nat), .ref y]) nU
      have sH2 := s.trans s2
      have hy2 : NmT _ y m := hy.same sH2
      have hD2 := s2 _ _ hD
      have hM2 := s2 _ _ hM
      refine ⟨U, _, rfl, SqT.of upd_same, rfl, _, _, rfl, _, _, rfl, rfl, ?_⟩
      -- the name is kept
      have yes : ∀ {H3 : Hp}, H3 = upd H1 U (.tup [.int (j : Nat), .ref y]) → ∃ (acc' : List V) (an' : List Nm) (v4 v5 : Option V), [some (V.ref g.w), some (V.int (i : Int)), some (V.int d), some (V.ref D), some (V.int (j : Nat)), some (V.ref y), none] = [some (.ref g.w), some (.int (i : Int)), some (.int d), some (.ref D), v4, v5, none] ∧
          upd H3 D (.lst (acc ++ [.ref y])) D = some (.lst acc') ∧ Paired (NmAt (upd H3 D (.lst (acc ++ [.ref y])))) acc' an' ∧ (∀ m ∈ an', m ∈ g.hn i) ∧ acc'.length ≤ j + 1 ∧ Same H (upd H3 D (.lst (acc ++ [.ref y]))) ∧ upd H3 D (.lst (acc ++ [.ref y])) M = some (.lst ys) ∧
          ∀ l m, l < j + 1 → (∃ v, ys[l]? = some v ∧ NmAt H v m) → m.1 = (i : Int) → m ∈ an' := by
        rintro H3 rfl
        have cD := Ch.upd (F := fun b => b = D) (o := .lst (acc ++ [.ref y])) rfl hD2 (fun xs z => nomatch z)
        refine ⟨acc ++ [.ref y], an ++ [m], _, _, rfl, upd_same, Paired.snoc (pair_ch cD (pair_same s2 hacc)) ⟨y, rfl, hy2.ch cD⟩, fun a ha => ?_, by rw [List.length_append]; exact Nat.succ_le_succ hal, fun b o e => ?_, by rw [upd_ne (Ne.symm DM)]; exact hM2, fun l' a hl' ⟨v, hv, hva⟩ ha => ?_⟩
        · rcases List.mem_append.mp ha with ha | ha
          · exact han a ha
          · rw [List.mem_singleton.mp ha]; exact hmn
        · rw [upd_ne (ne_of_none e nD)]
          exact sH2 _ _ e
        · by_cases c : l' = j
          · subst c
            rw [hv] at e2
            cases e2
            obtain ⟨y', e3, hy'⟩ := hva
            cases e3
            rw [hy'.inj hy]
            exact List.mem_append_right _ (List.mem_singleton.mpr rfl)
          · exact List.mem_append_left _ (hown l' a (by omega) ⟨v, hv, hva⟩ ha)
      have szz : acc.length < sizeLine := by
        have e9 : ys.length = (g.hs i).length := hp.length_eq
        have := W.ln.lhs i hi
        rw [sizeLine_eq]
        omega
      refine ⟨_, rfl, y, _, _, _, rfl, rfl, SqT.of hy2, atI_nat (j := 0) rfl, _, rfl, rfl, _, rfl, ?_⟩
      rw [dI]
      by_cases own : m.1 = (i : Int)
      · rw [decide_eq_true own]
        refine iteT ?_
        refine iteT ?_
        exact ⟨_, rfl, .inl ⟨rfl, _, SqL.of hD2⟩, _, rfl, D, acc, _, rfl, rfl, hD2, szz, yes rfl⟩
      · rw [decide_eq_false own]
        refine iteF ?_
        have r0 : 0 ≤ (j : Int) % 7 := Int.emod_nonneg _ (by decide)
        have r7 : (j : Int) % 7 < 7 := Int.emod_lt_of_pos _ (by decide)
        refine ⟨_, rfl, _, rfl, _, _, rfl, rfl, by show (0 : Int) < 7; decide, _, _, rfl, rfl, ⟨r0, by omega, by decide⟩, _, _, rfl, rfl, shl_ok r0 r7, _, _, rfl, rfl, by show (0 : Int) < 2; decide, rfl, _, rfl, ?_⟩
        refine ite2 (fun _ => ?_) (fun _ => ?_)
        · exact ⟨_, rfl, .inl ⟨rfl, _, SqL.of hD2⟩, _, rfl, D, acc, _, rfl, rfl, hD2, szz, yes rfl⟩
        · refine ⟨acc, an, _, _, rfl, hD2, pair_same s2 hacc, han, Nat.le_succ_of_le hal, sH2, hM2, fun l' a hl' ⟨v, hv, hva⟩ ha => ?_⟩
          by_cases c : l' = j
          · subst c
            rw [hv] at e2
            cases e2
            obtain ⟨y', e3, hy'⟩ := hva
            cases e3
            rw [hy'.inj hy] at ha
            exact absurd ha own
          · exact hown l' a (by omega) ⟨v, hv, hva⟩ ha
    · rintro σ H1 ⟨acc, an, v4, v5, rfl, hD, hacc, han, hal, s, hM, hown⟩
      have W1 := W.same s
      have B1 := W1.wk.b
      have nD1 : ¬ g.own D := B.c.not_own nD
      have hownAn : ((i : Int), 3 * (i : Int) + 1) ∈ an := by
        obtain ⟨j, hj⟩ := List.mem_iff_getElem?.mp (W.wk.p.hown i hi)
        obtain ⟨v, hv, hva⟩ := pair_get hsn hj
        obtain ⟨l, hl⟩ := List.mem_iff_getElem?.mp (hp.mem_iff.mpr (List.mem_of_getElem? hv))
        exact hown l _ (List.getElem?_eq_some_iff.mp hl).1 ⟨v, hl, hva⟩ rfl
      have accl : acc.length ≤ (g.hs i).length := by rw [← hp.length_eq]; exact hal
      refine ⟨_, rfl, _, rfl, g.w, _, rfl, B1.gH, _, rfl, g.aB, _, rfl, DPut.k (k := Sum.inl (i : Int)) (B1.c.cell .has True.intro) (Nat.lt_of_lt_of_le B1.t.lh (by decide)), ?_⟩
      have Bn := B1.newB hi hD nD1 an
      have chB : Ch g.own H1 (upd H1 g.aB (.dK (putK g.kh (.inl (i : Int)) (.ref D)))) := B1.c.oneCh .has True.intro _
      generalize hHn : upd H1 g.aB (.dK (putK g.kh (.inl (i : Int)) (.ref D))) = Hn at Bn chB
      have hDn := chB.keep _ _ hD nD1
      have haccn := pair_ch chB hacc
      have pt := Bn.c.part (i := i) hi
      have Ln : Link { g with ba := fup g.ba i D, kh := putK g.kh (.inl (i : Int)) (.ref D), hs := fup g.hs i acc, hn := fup g.hn i an } := ⟨W.lk.pl, W.lk.pn⟩
      refine ⟨_, rfl, g.w, _, rfl, Bn.gP, _, rfl, g.aP, _, _, _, rfl, rfl, SqL.of (Bn.lP Ln), atI_nat (range_at hi), g.pa i, _, _, rfl, pt.ob, no_meth (by decide +kernel), ?_⟩
      refine ⟨_, rfl, D, rfl, ⟨_, SqL.of hDn⟩, fun D2 nD2 => ?_⟩
      have s4 := Same.new (o := .lst []) nD2
      refine lc_list (K := K) (a := D) (xs := acc) (fun j H2 => ∃ ac2, H2 D2 = some (.lst ac2) ∧ Paired (NmAt H2) ac2 ((an.take j).filter fun m : Nm => decide (m.1 ≠ (i : Int))) ∧ Same Hn H2)
        ⟨[], upd_same, .nil, s4⟩ (fun j H2 _ ⟨_, _, _, s⟩ => SqL.of (s _ _ hDn)) ?_ ?_
      · rintro j x H2 hj ⟨ac2, hD2, hac2, s2⟩
        obtain ⟨m, hm, y, rfl, hy⟩ := pair_getL haccn hj
        have hy2 := hy.same s2
        have hjl : j < acc.length := (List.getElem?_eq_some_iff.mp hj).1
        have l2 : ac2.length ≤ j := by
          rw [Paired.length hac2]
          exact Nat.le_trans (List.length_filter_le _ _) (by rw [List.length_take]; omega)
        have tk : an.take (j + 1) = an.take j ++ [m] := by rw [List.take_add_one, hm]; rfl
        refine ⟨rfl, _, rfl, y, _, _, _, rfl, rfl, SqT.of hy2, atI_nat (j := 0) rfl, _, rfl, rfl, _, rfl, ?_⟩
        rw [dI]
        by_cases own : m.1 = (i : Int)
        · rw [decide_eq_true own]
          refine iteF ?_
          refine ⟨ac2, hD2, ?_, s2⟩
          rw [tk, List.filter_append]
          have e1 : ([m] : List Nm).filter (fun m : Nm => decide (m.1 ≠ (i : Int))) = [] := by simp [own]
          rw [e1, List.append_nil]
          exact hac2
        · rw [decide_eq_false own]
          refine iteT ?_
          have hln := W.ln.lhs i hi
          refine ⟨_, rfl, ac2, hD2, by rw [sizeLine_eq]; omega, ac2 ++ [.ref y], upd_same, ?_, fun b o e => ?_⟩
          · have cD := Ch.upd (F := fun b => b = D2) (o := .lst (ac2 ++ [.ref y])) rfl hD2 (fun xs z => nomatch z)
            rw [tk, List.filter_append]
            have e1 : ([m] : List Nm).filter (fun m : Nm => decide (m.1 ≠ (i : Int))) = [m] := by simp [own]
            rw [e1]
            exact Paired.snoc (pair_ch cD hac2) ⟨y, rfl, hy2.ch cD⟩
          · have nb : b ≠ D2 := fun c => by rw [c, nD2] at e; cases e
            rw [upd_ne nb]
            exact s2 _ _ e
      · rintro H2 ⟨ac2, hD2, hac2, s2⟩
        rw [show an.take acc.length = an from List.take_of_length_le (by rw [Paired.length hacc]; exact Nat.le_refl _)] at hac2
        refine ⟨D2, ac2, rfl, .inl ⟨SqL.of hD2, fun st nst => ?_⟩⟩
        have s5 := Same.new (o := .tup ac2) nst
        have s25 := s2.trans s5
        have pt5 := pt.same s25
        refine ⟨g.pa i, st, ac2, _, g.pq i, i, g.pn i, g.ow i, g.he i, rfl, pt5, upd_same, pair_same s5 hac2, W.wk.p.ndh i hi, by have := W.ln.lh i hi; omega, fun H6 l ls he' p6 c6 nl hl6 hls hlen nd6 hel hlk => ?_⟩
        have cw5 := Chw.same (g := { g with ba := fup g.ba i D, kh := putK g.kh (.inl (i : Int)) (.ref D), hs := fup g.hs i acc, hn := fup g.hn i an }) s25
        have B5 := Bn.same s25
        have cc6 := B5.c.setE (i := i) hi c6 p6
        have ch6 : Ch ({ g with ba := fup g.ba i D, kh := putK g.kh (.inl (i : Int)) (.ref D), hs := fup g.hs i acc, hn := fup g.hn i an } : Wd).own _ H6 := Wd.chPart (i := i) hi (fun b e => .inr (.inr e)) c6
        have chA : Ch (fun _ => True) H H6 := ((((Ch.same s).trans (chB.mono fun _ _ => True.intro)).trans (.same s25)).trans (ch6.mono fun _ _ => True.intro))
        have gp := W.wk.p.her (i := i) (he' := he') (hn' := an) (fun m hm => W.wk.p.hv i hi m (han m hm)) hownAn (fun m hm => by
            rw [hlk]
            by_cases c : m ∈ an
            · rw [if_pos (List.mem_filter.mpr ⟨c, decide_eq_true hm⟩)]
              exact ⟨fun _ => c, fun _ => (W.wk.p.kn i hi m hm).mpr (han m c)⟩
            · rw [if_neg fun z => c (List.mem_filter.mp z).1]
              exact ⟨fun z => (nomatch z), fun z => absurd z c⟩) (fun m hm => by
            rw [hlk] at hm
            split at hm
            · exact W.wk.p.ko i hi m hm
            · cases hm) nd6 (fun m x hm => by
            rw [hlk] at hm
            split at hm
            · exact W.wk.p.le i hi m x hm
            · cases hm)
        have wk6 : Wk T.C H6 { g with ba := fup g.ba i D, kh := putK g.kh (.inl (i : Int)) (.ref D), hs := fup g.hs i acc, hn := fup g.hn i an, he := fup g.he i he' } := by
          refine ⟨⟨cc6, B5.t.ow _ _ _ _ _⟩, gp, ⟨fun j hj => ?_, fun s' t' hs' ht' hst' v hv => (W.wk.h.ls s' t' hs' ht' hst' v hv).ch chA⟩⟩
          show Paired _ (fup g.hs i acc j) (fup g.hn i an j)
          by_cases c : j = i
          · rw [c, fup_same, fup_same]
            exact pair_ch ch6 (pair_same s25 haccn)
          · rw [fup_ne c, fup_ne c]
            exact pair_ch chA (W.wk.h.hsn j hj)
        have cwA : Chw g { g with ba := fup g.ba i D, kh := putK g.kh (.inl (i : Int)) (.ref D), hs := fup g.hs i acc, hn := fup g.hn i an } H Hn := by
          refine ⟨(Ch.same s).trans chB, rfl, rfl, fun l _ => ?_⟩
          cases l with
          | ba j =>
            show fup g.ba i D j = g.ba j ∨ H (fup g.ba i D j) = none
            by_cases c : j = i
            · rw [c, fup_same]; exact .inr nD
            · rw [fup_ne c]; exact .inl rfl
          | _ => exact .inl rfl
        have cw6 : Chw { g with ba := fup g.ba i D, kh := putK g.kh (.inl (i : Int)) (.ref D), hs := fup g.hs i acc, hn := fup g.hn i an } { g with ba := fup g.ba i D, kh := putK g.kh (.inl (i : Int)) (.ref D), hs := fup g.hs i acc, hn := fup g.hn i an, he := fup g.he i he' } _ H6 := ⟨ch6, rfl, rfl, fun l _ => .inl (by cases l <;> rfl)⟩
        have nl6 : ¬ ({ g with ba := fup g.ba i D, kh := putK g.kh (.inl (i : Int)) (.ref D), hs := fup g.hs i acc, hn := fup g.hn i an, he := fup g.he i he' } : Wd).own l := fun ⟨a, da, qa⟩ =>
          B5.c.not_own nl ⟨a, by cases a <;> exact da, by rw [qa]; cases a <;> rfl⟩
        have hle := W.ln.lh i hi
        refine ⟨_, rfl, _, rfl, _, rfl, { g with ba := fup g.ba i D, kh := putK g.kh (.inl (i : Int)) (.ref D), hs := fup g.hs i acc, hn := fup g.hn i an, he := fup g.he i he' }, i, l, ls, rfl, wk6, hi, hl6, nl6, fun v hv => ?_, by omega, fun s' t' => ?_, fun H7 ys' wk7 cw7 hl7 => ?_⟩
        · obtain ⟨p, r, y, m, e, h1, h2, h3, h4⟩ := hls v hv
          have h5 : (lk (g.he i) m).isSome = true := by
            rw [hlk] at h4
            split at h4
            · exact h4
            · cases h4
          obtain ⟨ne, hva⟩ := W.wk.p.ko i hi m h5
          obtain ⟨h, hh, eh⟩ := hva.home
          rw [eh] at h1
          exact ⟨p, .ref r, h, e, h1, hh, fun c => ne (by rw [eh, c]), r, y, m, rfl, hva, h3, .inr ⟨h2, eh⟩⟩
        · have := W.ln.lys s' t'
          show (g.ys s' t').length ≤ _
          omega
        · exact post H7 _ ⟨wk7, ⟨W.lk.pl, W.lk.pn⟩, W.ln.next rfl (fun _ _ => Nat.le_succ _) (fun j _ => fup_len (by omega) j) (fun j _ => fup_len (by omega) j) fun s' t' => by
            have h8 : (ys' s' t').length ≤ (g.ys s' t').length + ls.length := hl7 s' t'
            show (ys' s' t').length ≤ _
            omega⟩ (((cwA.trans cw5).trans cw6).trans cw7)
theorem bKept (T : TX K mg) : Binds K T.dKept ["_law_web_here", "_law_house", "_law_draw"] [] := T.FKept.binds (ps := ["_law_web_here", "_law_house", "_law_draw"]) fun _ _ _ _ _ _ us hl => match us, hl with | [_, _, _], _ => rfl
end
end K48

/-! turned: cells that move -/
namespace K48
open PySem PySem.Spec PyProof.Rows L2
/-! ### the valid names' hashes -/
def univ : List Nm := [(0, 1), (0, 10), (1, 4), (1, 11), (2, 7), (2, 12), (3, 10), (3, 13)]
theorem valid_univ {n : Nat} (h4 : n ≤ 4) {m : Nm} (h : Valid n m) : m ∈ univ := by
  obtain ⟨i, hi, e⟩ := h
  have : i = 0 ∨ i = 1 ∨ i = 2 ∨ i = 3 := by omega
  rcases this with rfl | rfl | rfl | rfl <;> rcases e with rfl | rfl <;> decide
theorem hash_inj : ∀ a ∈ univ, ∀ b ∈ univ, hashP (nk a) = hashP (nk b) → a = b := by decide +kernel
theorem hash_nd : ∀ {t : Tb}, Nd t → (∀ p ∈ t, p.1 ∈ univ) → ((kt t).map fun p => hashP p.1).Nodup
  | [], _, _ => List.nodup_nil
  | p :: r, nd, h => by
    have nd' : (p.1 :: r.map (·.1)).Nodup := nd
    obtain ⟨h1, h2⟩ := List.nodup_cons.mp nd'
    show (hashP (nk p.1) :: (kt r).map fun p => hashP p.1).Nodup
    refine List.nodup_cons.mpr ⟨fun m => ?_, hash_nd h2 fun q hq => h q (List.mem_cons_of_mem _ hq)⟩
    obtain ⟨q, hq, e⟩ := List.mem_map.mp m
    obtain ⟨u, hu, e2⟩ := List.mem_map.mp hq
    rw [← e2] at e
    have e3 := hash_inj u.1 (h u (List.mem_cons_of_mem _ hu)) p.1 (h p (List.mem_cons_self ..)) e
    exact h1 (List.mem_map.mpr ⟨u, hu, e3⟩)
theorem tab_univ {n : Nat} (h4 : n ≤ 4) {t : Tb} (h : ∀ m, (lk t m).isSome = true → Valid n m) : ∀ p ∈ t, p.1 ∈ univ := fun p hp => valid_univ h4 (h p.1 (lk_of_mem hp))
section
variable {C : Addr} {H H' : Hp} {g g' : Wd} {i : Nat}
/-- cells that stand elsewhere now -/
theorem Cells.re (c : Cells C H g) (hn : g'.n = g.n) (S : Loc → Prop) (same : ∀ l, g.dom l → ¬ S l → g'.adr l = g.adr l) (fresh : ∀ l, g.dom l → S l → ¬ g.own (g'.adr l)) (injS : ∀ l l', S l → S l' → g.dom l → g.dom l' → g'.adr l = g'.adr l' → l = l')
    (cell : ∀ l, g.dom l → H' (g'.adr l) = some (g'.cont C l)) : Cells C H' g' := by
  refine ⟨fun l d => cell l (dom_of hn d), fun l l' d d' e => ?_⟩
  have d1 := dom_of hn d
  have d2 := dom_of hn d'
  by_cases a : S l
  · by_cases b : S l'
    · exact injS l l' a b d1 d2 e
    · rw [same l' d2 b] at e
      exact absurd ⟨l', d2, e⟩ (fresh l d1 a)
  · by_cases b : S l'
    · rw [same l d1 a] at e
      exact absurd ⟨l, d1, e.symm⟩ (fresh l' d2 b)
    · rw [same l d1 a, same l' d2 b] at e
      exact c.inj l l' d1 d2 e
theorem k_pn : ¬ ((Sum.inr "parts" : Key) = (Sum.inr "now" : Key)) := by decide +kernel
theorem k_yn : ¬ ((Sum.inr "ways" : Key) = (Sum.inr "now" : Key)) := by decide +kernel
theorem k_hn : ¬ ((Sum.inr "has" : Key) = (Sum.inr "now" : Key)) := by decide +kernel
theorem k_np : ¬ ((Sum.inr "now" : Key) = (Sum.inr "parts" : Key)) := by decide +kernel
theorem k_yp : ¬ ((Sum.inr "ways" : Key) = (Sum.inr "parts" : Key)) := by decide +kernel
theorem k_hp : ¬ ((Sum.inr "has" : Key) = (Sum.inr "parts" : Key)) := by decide +kernel
/-- the time goes on -/
theorem Wb.tick (b : Wb C H g) (z : Int) : Wb C (upd H g.w (.dK (putK g.kw (.inr "now") (.int z)))) { g with now := z, kw := putK g.kw (.inr "now") (.int z) } := by
  refine ⟨b.c.one .web True.intro rfl (fun l => by cases l <;> rfl) (fun l _ ne => by cases l <;> first | rfl | exact absurd rfl ne) rfl, ?_, ?_, ?_, ?_, b.t.kh, b.t.ky, b.t.kyk, ?_, b.t.lh, b.t.ly, b.t.n2, b.t.n4⟩
  · show valV (putK g.kw _ _) _ = _
    rw [valV_put, if_pos rfl]
  · show valV (putK g.kw _ _) _ = _
    rw [valV_put, if_neg k_pn]; exact b.t.kwP
  · show valV (putK g.kw _ _) _ = _
    rw [valV_put, if_neg k_yn]; exact b.t.kwY
  · show valV (putK g.kw _ _) _ = _
    rw [valV_put, if_neg k_hn]; exact b.t.kwH
  · show (putK g.kw _ _).length < 100
    rw [len_putK b.t.kwN]; exact b.t.lw
/-- another list of parts -/
theorem Wb.newP (b : Wb C H g) {D : Addr} {pl : List V} (hD : H D = some (.lst pl)) (nD : ¬ g.own D) : Wb C (upd H g.w (.dK (putK g.kw (.inr "parts") (.ref D)))) { g with aP := D, kw := putK g.kw (.inr "parts") (.ref D), pl := pl } := by
  have DW : D ≠ g.w := fun e => nD ⟨.web, True.intro, e⟩
  refine ⟨b.c.re rfl (fun l => l = .prt) (fun l _ ne => by cases l <;> first | rfl | exact absurd rfl ne) (fun l _ e => by subst e; exact nD) (fun l l' e e' _ _ _ => e.trans e'.symm) (fun l d => ?_), ?_, ?_, ?_, ?_, b.t.kh, b.t.ky, b.t.kyk, ?_, b.t.lh, b.t.ly, b.t.n2, b.t.n4⟩
  · have k : l ≠ .web → upd H g.w (.dK (putK g.kw (.inr "parts") (.ref D))) (g.adr l) = some (g.cont C l) := fun h1 => by
      have ne : g.adr l ≠ g.w := fun q => h1 (b.c.inj l .web d True.intro q)
      rw [upd_ne ne]
      exact b.c.cell l d
    cases l with
    | web => exact upd_same
    | prt =>
      show upd H g.w _ D = some (.lst pl)
      rw [upd_ne DW]; exact hD
    | way => exact k (by intro z; cases z)
    | has => exact k (by intro z; cases z)
    | pa j => exact k (by intro z; cases z)
    | po j => exact k (by intro z; cases z)
    | pe j => exact k (by intro z; cases z)
    | ba j => exact k (by intro z; cases z)
    | ya s t => exact k (by intro z; cases z)
  · show valV (putK g.kw _ _) _ = _
    rw [valV_put, if_neg k_np]; exact b.t.kwN
  · show valV (putK g.kw _ _) _ = _
    rw [valV_put, if_pos rfl]
  · show valV (putK g.kw _ _) _ = _
    rw [valV_put, if_neg k_yp]; exact b.t.kwY
  · show valV (putK g.kw _ _) _ = _
    rw [valV_put, if_neg k_hp]; exact b.t.kwH
  · show (putK g.kw _ _).length < 100
    rw [len_putK b.t.kwP]; exact b.t.lw
/-- a part's copy in its place -/
theorem Cells.newPart (c : Cells C H g) (hi : i < g.n) {r : Addr} {q : PA} (p : PartAt C H r q i (g.pn i) (g.ow i) (g.he i)) (n1 : ¬ g.own r) (n2 : ¬ g.own q.o) (n3 : ¬ g.own q.e) : Cells C H { g with pa := fup g.pa i r, pq := fup g.pq i q } := by
  have ad : ∀ l, ¬ (l = .pa i ∨ l = .po i ∨ l = .pe i) → ({ g with pa := fup g.pa i r, pq := fup g.pq i q } : Wd).adr l = g.adr l := fun l ne => by
    cases l with
    | pa j => exact fup_ne fun e => ne (.inl (by rw [e]))
    | po j =>
      show (fup g.pq i q j).o = (g.pq j).o
      rw [fup_ne fun e => ne (.inr (.inl (by rw [e])))]
    | pe j =>
      show (fup g.pq i q j).e = (g.pq j).e
      rw [fup_ne fun e => ne (.inr (.inr (by rw [e])))]
    | _ => rfl
  have a1 : ({ g with pa := fup g.pa i r, pq := fup g.pq i q } : Wd).adr (.pa i) = r := fup_same
  have a2 : ({ g with pa := fup g.pa i r, pq := fup g.pq i q } : Wd).adr (.po i) = q.o := by show (fup g.pq i q i).o = _; rw [fup_same]
  have a3 : ({ g with pa := fup g.pa i r, pq := fup g.pq i q } : Wd).adr (.pe i) = q.e := by show (fup g.pq i q i).e = _; rw [fup_same]
  refine c.re rfl (fun l => l = .pa i ∨ l = .po i ∨ l = .pe i) (fun l _ ne => ad l ne) (fun l _ e => ?_) (fun l l' e e' _ _ h => ?_) (fun l d => ?_)
  · rcases e with e | e | e <;> rw [e]
    · rw [a1]; exact n1
    · rw [a2]; exact n2
    · rw [a3]; exact n3
  · rcases e with e | e | e <;> rcases e' with e' | e' | e' <;> rw [e, e'] at h ⊢
    · rw [a1, a2] at h; exact absurd h p.ao
    · rw [a1, a3] at h; exact absurd h p.ae
    · rw [a1, a2] at h; exact absurd h.symm p.ao
    · rw [a2, a3] at h; exact absurd h p.ne
    · rw [a1, a3] at h; exact absurd h.symm p.ae
    · rw [a2, a3] at h; exact absurd h.symm p.ne
  · cases l with
    | pa j =>
      show H (fup g.pa i r j) = some (.ins C (fup g.pq i q j).dx (pfl j (g.pn j) (fup g.pq i q j).o (fup g.pq i q j).e))
      by_cases e : j = i
      · subst e; rw [fup_same, fup_same]; exact p.ob
      · rw [fup_ne e, fup_ne e]; exact c.cell (.pa j) d
    | po j =>
      show H (fup g.pq i q j).o = some (.dT (kt (g.ow j)))
      by_cases e : j = i
      · subst e; rw [fup_same]; exact p.oo
      · rw [fup_ne e]; exact c.cell (.po j) d
    | pe j =>
      show H (fup g.pq i q j).e = some (.dT (kt (g.he j)))
      by_cases e : j = i
      · subst e; rw [fup_same]; exact p.ee
      · rw [fup_ne e]; exact c.cell (.pe j) d
    | web => exact c.cell .web d
    | prt => exact c.cell .prt d
    | way => exact c.cell .way d
    | has => exact c.cell .has d
    | ba j => exact c.cell (.ba j) d
    | ya s t => exact c.cell (.ya s t) d
end
end K48

/-! turned -/
namespace K48
open PySem PySem.Spec PyProof.Rows L2
/-- the web while the time goes on: the parts below j are done -/
structure TurnIn (C : Addr) (g : Wd) (H : Hp) (Lr : Addr) (j : Nat) (H' : Hp) (e : Wd) : Prop where
  wk : Wk C H' e
  n : e.n = g.n
  now : e.now = g.now + 1
  w : e.w = g.w
  aP : e.aP = g.aP
  pl : e.pl = g.pl
  rest : ∀ l, j ≤ l → l < g.n → e.pa l = g.pa l ∧ e.pn l = g.now
  pn : ∀ l, l < j → e.pn l = g.now + 1
  cw : Chw g e H H'
  lr : H' Lr = some (.lst ((List.range j).map fun l => V.ref (e.pa l)))
  nl : ¬ e.own Lr
  low : ∀ l, l < g.n → (e.ow l).length ≤ (g.ow l).length
  lhe : ∀ l, l < g.n → (e.he l).length ≤ (g.he l).length
  lhs : ∀ l, l < g.n → (e.hs l).length ≤ (g.hs l).length
  ys : e.ys = g.ys
section
variable {P : Program} {w : World} {K : PySem.W.Frag} {mg : Str → Option Value} {base : Heap}
theorem scTurn : FnScope ["_law_web_here", "_law_house", "_law_draw", "_law_later", "_law_one", "_law_part", "_law_gone", "_law_name"] ["_law_web_here", "_law_house", "_law_draw"] (defScope sTurned) := ⟨rfl, rfl, rfl, by decide +kernel, rfl, by decide +kernel, by decide +kernel⟩
def spTurn (C : Addr) : Sp := fun vs H Q _ => ∃ (g : Wd) (k : Nat) (h d : Int), vs = [.ref g.w, .int h, .int d] ∧ WIn C H g k ∧ k ≤ 60 ∧ Post C g k H Q
theorem ok_turn (T : TX K mg) : FnOk P w K mg base CX0 5 T.aTurn T.dTurn ["_law_web_here", "_law_house", "_law_draw"] (spTurn T.C) := by
  have GL : FnOk P w K mg base CX0 1 T.aLapse T.dLapse ["self", "now"] (spLapse T.C) := ok_lapse T
  have GC : FnOk P w K mg base CX0 4 T.aCop T.dCop ["self"] (spCop T.C) := ok_cop T
  refine T.FTurn.ok scTurn (fun vs H Q E h => ?_) (fun cdv A outer s H vs Q E hr h => ?_)
  · obtain ⟨g, k, h, d, rfl, _⟩ := h
    rfl
  · obtain ⟨g, k, hh, d, rfl, W, hk, post⟩ := h
    have hu := hu_of hr
    have hu5 := hu65 hr
    have hr1 : Room 1 _ := hr.mono (by decide)
    refine ⟨_, pss_cons (ps_dput hu (pv 0) pe_str (pe_op op_add (pe_dget hu (pv 0) pe_str (fun _ _ => rfl)) pe_int) rfl)
      (pss_cons (ps_set (i := 3) scTurn.nd rfl (Or.inl rfl) (pe_lst pa_nil))
      (pss_cons (ps_for PassesOwn.never rfl (pi_enum (by rfl) T.zEnum (pa_cons (pe_dget hu (pv 0) pe_str (fun _ _ => rfl)) pa_nil))
          (pg_tup (by rfl) (pgs_cons (pg_name (i := 4) scTurn.nd rfl (Or.inl rfl)) (pgs_cons (pg_name (i := 5) scTurn.nd rfl (Or.inl rfl)) pgs_nil)))
        (pss_cons (ps_set (i := 6) scTurn.nd rfl (Or.inr rfl) (pe_meth (pv 5) T.cl T.mLapse GL hr1 (bLapse T) .nil pass0 (pa_cons (pe_dget hu (pv 0) pe_str (fun _ _ => rfl)) pa_nil)))
        (pss_cons (ps_dput hu (pe_dget hu (pv 0) pe_str (fun _ _ => rfl)) (pv 4)
            (pe_lc (own := [("_law_name", 7)]) (g := gName 7) (tt := tTest (tOp (rNotInT K) (tVar 7) (tVar 6))) rfl scTurn.nd (pi_list (pe_dget hu (pe_dget hu (pv 0) pe_str (fun _ _ => rfl)) (pv 4) (fun _ _ => rfl)))
              (blkOk_by (own := [("_law_name", 7)]) (N := ["_law_web_here", "_law_house", "_law_draw", "_law_later", "_law_one", "_law_part", "_law_gone", "_law_name"]) (sc := defScope sTurned) (by decide +kernel)) (fun _ _ _ _ _ => pg_name (i := 7) scTurn.nd rfl (Or.inl rfl))
              (fun _ _ _ _ _ => pts_one (pt_cmpR (r := rNotInT K) (op_notInT hu5) (pv 7) (pv 6) (by rfl))) (fun _ _ _ _ _ => pv 7)) rfl)
        (pss_one (ps_expr (pe_bm PySem.F.plainAttrs_list PySem.F.slot_list_append PySem.F.type_list_append mt_append (pv 3) (pa_cons
          (pe_ix ix_list (pe_lst (pa_cons (pv 5) (pa_cons (pe_meth0 (pv 5) T.cl T.mCop GC hr (bCop T) .nil pass0) pa_nil))) (pe_op op_mod (pv 2) pe_int) (fun _ _ => rfl)) pa_nil)))))))
      (pss_one (ps_dput hu (pv 0) pe_str (pv 3) rfl)))), ?_⟩
    have B := W.wk.b
    refine ⟨_, rfl, g.w, _, rfl, B.gN, _, _, rfl, rfl, _, rfl, g.w, _, rfl, DPut.k (k := Sum.inr "now") (B.c.cell .web True.intro) (Nat.lt_of_lt_of_le B.t.lw (by decide)), ?_⟩
    have B0 := B.tick (g.now + 1)
    have ch0 : Ch g.own H (upd H g.w (.dK (putK g.kw (.inr "now") (.int (g.now + 1))))) := B.c.oneCh .web True.intro _
    show tSeq _ _ _ _ (upd H g.w (.dK (putK g.kw (.inr "now") (.int (g.now + 1)))))
    generalize hH0 : upd H g.w (.dK (putK g.kw (.inr "now") (.int (g.now + 1)))) = H0 at B0 ch0
    have wk0 : Wk T.C H0 { g with now := g.now + 1, kw := putK g.kw (.inr "now") (.int (g.now + 1)) } := ⟨B0, by
        have p := W.wk.p
        exact ⟨by have := p.now0; show 0 ≤ g.now + 1; omega, p.hv, p.hown, p.kn, p.ko, p.ov, p.ndo, p.ndh, p.le, fun m hm => by have h := p.l8 m hm; show Lf g.ow m ≤ g.now + 1 + 8; omega, p.lm⟩, W.wk.h.ch ch0⟩
    have cw0 : Chw g { g with now := g.now + 1, kw := putK g.kw (.inr "now") (.int (g.now + 1)) } H H0 := ⟨ch0, rfl, rfl, fun l _ => .inl (by cases l <;> rfl)⟩
    refine ⟨Nat.zero_le _, fun Lr nLr => ?_⟩
    have s1 := Same.new (o := .lst []) nLr
    have wk1 := wk0.same s1
    have nlr : ¬ ({ g with now := g.now + 1, kw := putK g.kw (.inr "now") (.int (g.now + 1)) } : Wd).own Lr := wk0.b.c.not_own nLr
    have hpl := W.lk.pl
    have hP1 : upd H0 Lr (.lst []) g.aP = some (.lst ((List.range g.n).map fun i => V.ref (g.pa i))) := by
      have h := wk1.b.c.cell .prt True.intro
      rw [show (({ g with now := g.now + 1, kw := putK g.kw (.inr "now") (.int (g.now + 1)) } : Wd).cont T.C .prt) = .lst g.pl from rfl, hpl] at h
      exact h
    refine ⟨_, rfl, g.w, _, rfl, wk1.b.gP, g.aP, _, rfl, SqL.of hP1, for_it (walk_enum (K := K) (a := g.aP) (xs := (List.range g.n).map fun i => V.ref (g.pa i))) (fun j σ H' => ∃ (e : Wd) (v4 v5 v6 : Option V), σ = [some (.ref g.w), some (.int hh), some (.int d), some (.ref Lr), v4, v5, v6, none] ∧ TurnIn T.C g H Lr j H' e)
      ⟨_, none, none, none, rfl, ⟨wk1, rfl, rfl, rfl, rfl, rfl, fun l _ hl => ⟨rfl, W.lk.pn l hl⟩, fun l hl => absurd hl (Nat.not_lt_zero _), cw0.trans (Chw.same s1), upd_same, nlr, fun _ _ => Nat.le_refl _, fun _ _ => Nat.le_refl _, fun _ _ => Nat.le_refl _, rfl⟩⟩ (fun j σ H' _ ⟨e, _, _, _, _, I⟩ => ?_) ?_ ?_⟩
    · have h := I.wk.b.c.cell .prt True.intro
      rw [show e.adr .prt = g.aP from I.aP, show e.cont T.C .prt = .lst g.pl from congrArg HO.lst I.pl, hpl] at h
      exact SqL.of h
    · rintro j x σ H1 H2 hj ⟨e, v4, v5, v6, rfl, I⟩ ⟨U, a1, a2, rfl, nU, rfl, e1, e2⟩
      cases e1
      have hj : j < g.n := by rw [List.length_map, List.length_range] at hj; exact hj
      have e2 : ((List.range g.n).map fun i => V.ref (g.pa i))[j]? = some a2 := e2
      rw [range_at hj] at e2
      cases e2
      have nLr0 : H Lr = none := ch0.more _ nLr
      have hjn : j < e.n := by rw [I.n]; exact hj
      obtain ⟨epa, epn⟩ := I.rest j (Nat.le_refl _) hj
      have sU := Same.new (o := .tup [.int (j : Nat), .ref (g.pa j)]) nU
      have wk2 := I.wk.same sU
      have lr2 := sU _ _ I.lr
      have gN := wk2.b.gN
      rw [I.w, I.now] at gN
      have pt := wk2.b.c.part hjn
      rw [epa, epn] at pt
      have lh := W.ln.lh j hj
      have lh2 := I.lhe j hj
      refine ⟨U, _, rfl, SqT.of upd_same, rfl, _, _, rfl, _, _, rfl, rfl, ?_⟩
      refine ⟨_, rfl, g.pa j, _, _, rfl, pt.ob, no_meth (by decide +kernel), _, rfl, g.w, _, rfl, gN, g.pa j, e.pq j, j, g.now, g.now + 1, e.ow j, e.he j, rfl, pt, I.wk.p.ndh j hjn, by omega, fun H3 gn gs ns he' p3 c3 hgn hgs hns nd3 hle3 hlk3 => ?_⟩
      -- the part has lapsed
      have hF : ∀ b, (b = g.pa j ∨ b = (e.pq j).e) → b = e.pa j ∨ b = (e.pq j).o ∨ b = (e.pq j).e := fun b f => f.elim (fun q => .inl (by rw [epa]; exact q)) (fun q => .inr (.inr q))
      have p3' : PartAt T.C H3 (e.pa j) (e.pq j) j (g.now + 1) (e.ow j) he' := by rw [epa]; exact p3
      have cc3 := wk2.b.c.setPart hjn hF c3 p3'
      rw [fup_id] at cc3
      have ch3 : Ch e.own (upd H1 U (.tup [.int (j : Nat), .ref (g.pa j)])) H3 := Wd.chPart hjn hF c3
      have B3 : Wb T.C H3 { e with pn := fup e.pn j (g.now + 1), he := fup e.he j he' } := ⟨cc3, ⟨wk2.b.t.kwN, wk2.b.t.kwP, wk2.b.t.kwY, wk2.b.t.kwH, wk2.b.t.kh, wk2.b.t.ky, wk2.b.t.kyk, wk2.b.t.lw, wk2.b.t.lh, wk2.b.t.ly, wk2.b.t.n2, wk2.b.t.n4⟩⟩
      have lr3 := ch3.keep _ _ lr2 I.nl
      have hsn3 := pair_ch ch3 (wk2.h.hsn j hjn)
      have gH3 := B3.gH
      rw [show ({ e with pn := fup e.pn j (g.now + 1), he := fup e.he j he' } : Wd).w = g.w from I.w] at gH3
      refine ⟨_, rfl, g.w, _, rfl, gH3, _, rfl, e.aB, _, rfl, B3.gB (i := j) hjn, e.ba j, rfl, ⟨_, SqL.of (B3.lB (i := j) hjn)⟩, fun D nD => ?_⟩
      have sD := Same.new (o := .lst []) nD
      refine lc_list (K := K) (a := e.ba j) (xs := e.hs j) (fun i H4 => ∃ acc, H4 D = some (.lst acc) ∧ Paired (NmAt H4) acc (((e.hn j).take i).filter fun m : Nm => decide (¬ m ∈ ns)) ∧ Same H3 H4)
        ⟨[], upd_same, .nil, sD⟩ (fun i H4 _ ⟨_, _, _, s⟩ => SqL.of (s _ _ (B3.lB (i := j) hjn))) ?_ ?_
      · rintro i x H4 hi ⟨acc, hD, hacc, s⟩
        obtain ⟨m, hm, y, rfl, hy⟩ := pair_getL hsn3 hi
        have hil : i < (e.hs j).length := (List.getElem?_eq_some_iff.mp hi).1
        have hy4 := hy.same s
        have l2 : acc.length ≤ i := by
          rw [Paired.length hacc]
          exact Nat.le_trans (List.length_filter_le _ _) (by rw [List.length_take]; omega)
        have tk : (e.hn j).take (i + 1) = (e.hn j).take i ++ [m] := by rw [List.take_add_one, hm]; rfl
        refine ⟨rfl, _, rfl, _, rfl, pD m, ns.map pD, dp_nm hy4, .tup (SqT.of (s _ _ hgn)) (dp_nms (pair_same s hgs)), pD_shaped m, pDt_shaped ns, _, rfl, ?_⟩
        rw [pD_any]
        by_cases hin : m ∈ ns
        · rw [decide_eq_true hin]
          refine iteF ?_
          refine ⟨acc, hD, ?_, s⟩
          rw [tk, List.filter_append]
          have e1 : ([m] : List Nm).filter (fun m : Nm => decide (¬ m ∈ ns)) = [] := by simp [hin]
          rw [e1, List.append_nil]
          exact hacc
        · rw [decide_eq_false hin]
          refine iteT ?_
          have hln := W.ln.lhs j hj
          have hln2 := I.lhs j hj
          refine ⟨_, rfl, acc, hD, by rw [sizeLine_eq]; omega, acc ++ [.ref y], upd_same, ?_, fun b o e' => ?_⟩
          · have cD := Ch.upd (F := fun b => b = D) (o := .lst (acc ++ [.ref y])) rfl hD (fun xs z => nomatch z)
            rw [tk, List.filter_append]
            have e1 : ([m] : List Nm).filter (fun m : Nm => decide (¬ m ∈ ns)) = [m] := by simp [hin]
            rw [e1]
            exact Paired.snoc (pair_ch cD hacc) ⟨y, rfl, hy4.ch cD⟩
          · have nb : b ≠ D := fun c => by rw [c, nD] at e'; cases e'
            rw [upd_ne nb]
            exact s _ _ e'
      rintro H4 ⟨acc, hD, hacc, s4⟩
      rw [show (e.hn j).take (e.hs j).length = e.hn j from List.take_of_length_le (by rw [Paired.length hsn3]; exact Nat.le_refl _)] at hacc
      generalize han : ((e.hn j).filter fun m : Nm => decide (¬ m ∈ ns)) = an at hacc
      have B4 := B3.same s4
      have nD4 : ¬ ({ e with pn := fup e.pn j (g.now + 1), he := fup e.he j he' } : Wd).own D := B3.c.not_own nD
      have gH4 := B4.gH
      rw [show ({ e with pn := fup e.pn j (g.now + 1), he := fup e.he j he' } : Wd).w = g.w from I.w] at gH4
      refine ⟨_, rfl, g.w, _, rfl, gH4, _, rfl, e.aB, _, rfl, DPut.k (k := Sum.inl (j : Int)) (B4.c.cell .has True.intro) (Nat.lt_of_lt_of_le B4.t.lh (by decide)), ?_⟩
      have B5 := B4.newB (i := j) hjn hD nD4 an
      have chB : Ch ({ e with pn := fup e.pn j (g.now + 1), he := fup e.he j he' } : Wd).own H4 (upd H4 e.aB (.dK (putK e.kh (.inl (j : Int)) (.ref D)))) := B4.c.oneCh .has True.intro _
      generalize hH5 : upd H4 e.aB (.dK (putK e.kh (.inl (j : Int)) (.ref D))) = H5 at B5 chB
      have ownE : ∀ b, ({ e with pn := fup e.pn j (g.now + 1), he := fup e.he j he' } : Wd).own b → e.own b := fun b ⟨l, dl, q⟩ => ⟨l, by cases l <;> exact dl, by rw [q]; cases l <;> rfl⟩
      have ch5 : Ch e.own (upd H1 U (.tup [.int (j : Nat), .ref (g.pa j)])) H5 := (ch3.trans (.same s4)).trans (chB.mono ownE)
      have nD2 : upd H1 U (.tup [.int (j : Nat), .ref (g.pa j)]) D = none := ch3.more _ nD
      have cw5 : Chw e { e with pn := fup e.pn j (g.now + 1), he := fup e.he j he', ba := fup e.ba j D, kh := putK e.kh (.inl (j : Int)) (.ref D), hs := fup e.hs j acc, hn := fup e.hn j an } (upd H1 U (.tup [.int (j : Nat), .ref (g.pa j)])) H5 := by
        refine ⟨ch5, rfl, rfl, fun l _ => ?_⟩
        cases l with
        | ba i =>
          show fup e.ba j D i = e.ba i ∨ _ = none
          by_cases c : i = j
          · rw [show ({ e with pn := fup e.pn j (g.now + 1), he := fup e.he j he', ba := fup e.ba j D, kh := putK e.kh (.inl (j : Int)) (.ref D), hs := fup e.hs j acc, hn := fup e.hn j an } : Wd).adr (.ba i) = fup e.ba j D i from rfl, c, fup_same]; exact .inr nD2
          · rw [fup_ne c]; exact .inl rfl
        | _ => exact .inl rfl
      have gp := I.wk.p.her (i := j) (he' := he') (hn' := an) (fun m hm => I.wk.p.hv j hjn m (by rw [← han] at hm; exact (List.mem_filter.mp hm).1)) (by
          rw [← han]
          refine List.mem_filter.mpr ⟨I.wk.p.hown j hjn, decide_eq_true fun c => ?_⟩
          obtain ⟨x, hx, _⟩ := (hns _).mp c
          exact (I.wk.p.ko j hjn _ (by rw [hx]; rfl)).1 rfl) (fun m hm => by
          rw [hlk3, ← han, List.mem_filter]
          by_cases c : m ∈ ns
          · rw [if_pos c]
            exact ⟨fun z => (nomatch z), fun z => absurd c (of_decide_eq_true z.2)⟩
          · rw [if_neg c, I.wk.p.kn j hjn m hm]
            exact ⟨fun z => ⟨z, decide_eq_true c⟩, fun z => z.1⟩) (fun m hm => by
          rw [hlk3] at hm
          split at hm
          · cases hm
          · exact I.wk.p.ko j hjn m hm) nd3 (fun m x hm => by
          rw [hlk3] at hm
          split at hm
          · cases hm
          · exact I.wk.p.le j hjn m x hm)
      have wk5 : Wk T.C H5 { e with pn := fup e.pn j (g.now + 1), he := fup e.he j he', ba := fup e.ba j D, kh := putK e.kh (.inl (j : Int)) (.ref D), hs := fup e.hs j acc, hn := fup e.hn j an } := by
        refine ⟨B5, gp, ⟨fun i hi => ?_, fun s' t' hs' ht' hst' v hv => (wk2.h.ls s' t' hs' ht' hst' v hv).ch ch5⟩⟩
        show Paired _ (fup e.hs j acc i) (fup e.hn j an i)
        by_cases c : i = j
        · rw [c, fup_same, fup_same]
          exact pair_ch chB hacc
        · rw [fup_ne c, fup_ne c]
          exact pair_ch ch5 (wk2.h.hsn i hi)
      obtain ⟨lr5, nl5⟩ := cw5.stay lr2 I.nl
      have accl : acc.length ≤ (e.hs j).length := by
        rw [Paired.length hacc, ← han, Paired.length hsn3]
        exact List.length_filter_le _ _
      have p5 := B5.c.part (i := j) hjn
      rw [show ({ e with pn := fup e.pn j (g.now + 1), he := fup e.he j he', ba := fup e.ba j D, kh := putK e.kh (.inl (j : Int)) (.ref D), hs := fup e.hs j acc, hn := fup e.hn j an } : Wd).pa j = g.pa j from epa,
        show ({ e with pn := fup e.pn j (g.now + 1), he := fup e.he j he', ba := fup e.ba j D, kh := putK e.kh (.inl (j : Int)) (.ref D), hs := fup e.hs j acc, hn := fup e.hn j an } : Wd).pn j = g.now + 1 from fup_same,
        show ({ e with pn := fup e.pn j (g.now + 1), he := fup e.he j he', ba := fup e.ba j D, kh := putK e.kh (.inl (j : Int)) (.ref D), hs := fup e.hs j acc, hn := fup e.hn j an } : Wd).he j = he' from fup_same] at p5
      have n4 := B5.t.n4
      have ho : ((kt (e.ow j)).map fun p => hashP p.1).Nodup := hash_nd (I.wk.p.ndo j hjn) (tab_univ n4 fun m hm => I.wk.p.ov j hjn m hm)
      have hh2 : ((kt he').map fun p => hashP p.1).Nodup := hash_nd nd3 (tab_univ n4 fun m hm => by
        rw [hlk3] at hm
        split at hm
        · cases hm
        · exact (I.wk.p.ko j hjn m hm).2)
      refine ⟨_, rfl, .inl ⟨rfl, _, SqL.of lr5⟩, _, rfl, _, rfl, g.pa j, _, _, rfl, p5.ob, no_meth (by decide +kernel), g.pa j, e.pq j, j, g.now + 1, e.ow j, he', rfl, p5, ho, hh2, fun H6 r q6 p6 s6 nr nro nre => ⟨by show 2 ≤ sizeLine; decide, fun ll nll => ?_⟩⟩
      have s7 := Same.new (o := .lst [.ref (g.pa j), .ref r]) nll
      have s57 := s6.trans s7
      have lr7 := s57 _ _ lr5
      -- what is the same whichever part is taken
      have next : ∀ (e' : Wd) (v : Addr), Wk T.C (upd H6 ll (.lst [.ref (g.pa j), .ref r])) e' → Chw { e with pn := fup e.pn j (g.now + 1), he := fup e.he j he', ba := fup e.ba j D, kh := putK e.kh (.inl (j : Int)) (.ref D), hs := fup e.hs j acc, hn := fup e.hn j an } e' H5 (upd H6 ll (.lst [.ref (g.pa j), .ref r])) →
          e'.now = e.now → e'.aP = e.aP → e'.pl = e.pl → e'.ow = e.ow → e'.he = fup e.he j he' → e'.hs = fup e.hs j acc → e'.ys = e.ys → e'.pn = fup e.pn j (g.now + 1) → e'.pa = fup e.pa j v →
          TurnIn T.C g H Lr (j + 1) (upd (upd H6 ll (.lst [.ref (g.pa j), .ref r])) Lr (.lst (((List.range j).map fun l => V.ref (e.pa l)) ++ [.ref v]))) e' := by
        intro e' v wk' cw' q1 q2 q3 q4 q5 q6' q7 q8 q9
        obtain ⟨_, nl'⟩ := cw'.stay lr5 nl5
        have cwA := ((I.cw.trans (Chw.same sU)).trans cw5).trans cw'
        have chL : Ch (fun b => b = Lr) (upd H6 ll (.lst [.ref (g.pa j), .ref r])) (upd (upd H6 ll (.lst [.ref (g.pa j), .ref r])) Lr (.lst (((List.range j).map fun l => V.ref (e.pa l)) ++ [.ref v]))) := Ch.upd rfl lr7 (fun xs z => nomatch z)
        refine ⟨⟨⟨⟨fun l dl => ?_, wk'.b.c.inj⟩, wk'.b.t⟩, wk'.p, wk'.h.ch chL⟩, cw'.n.trans I.n, q1.trans I.now, cw'.w.trans I.w, q2.trans I.aP, q3.trans I.pl, fun l h1 h2 => ?_, fun l h1 => ?_, ⟨⟨fun b u hb nb => ?_, fun b xs hb => ?_, fun b hb => ?_⟩, cwA.n, cwA.w, cwA.adr⟩, ?_, nl', fun l hl => ?_, fun l hl => ?_, fun l hl => ?_, q7.trans I.ys⟩
        · rw [upd_ne fun q => nl' ⟨l, dl, q.symm⟩]
          exact wk'.b.c.cell l dl
        · rw [q9, q8, fup_ne (by omega), fup_ne (by omega)]
          exact I.rest l (by omega) h2
        · rw [q8]
          by_cases c : l = j
          · rw [c, fup_same]
          · rw [fup_ne c]; exact I.pn l (by omega)
        · rw [upd_ne fun q => by rw [q, nLr0] at hb; cases hb]
          exact cwA.ch.keep b u hb nb
        · rw [upd_ne fun q => by rw [q, nLr0] at hb; cases hb]
          exact cwA.ch.tups b xs hb
        · exact cwA.ch.more b (chL.more b hb)
        · rw [upd_same, List.range_succ, List.map_append, q9]
          refine congrArg (fun z => some (HO.lst z)) ?_
          refine congr (congrArg _ (List.map_congr_left fun l hl => ?_)) ?_
          · rw [fup_ne (Nat.ne_of_lt (List.mem_range.mp hl))]
          · show [V.ref v] = [V.ref (fup e.pa j v j)]
            rw [fup_same]
        · rw [q4]; exact I.low l hl
        · rw [q5]
          by_cases c : l = j
          · rw [c, fup_same]; exact Nat.le_trans hle3 lh2
          · rw [fup_ne c]; exact I.lhe l hl
        · rw [q6']
          by_cases c : l = j
          · rw [c, fup_same]; exact Nat.le_trans accl (I.lhs j hj)
          · rw [fup_ne c]; exact I.lhs l hl
      have szz : ((List.range j).map fun l => V.ref (e.pa l)).length < sizeLine := by
        rw [List.length_map, List.length_range, sizeLine_eq]
        have := W.wk.b.t.n4
        omega
      have two : d % 2 = 0 ∨ d % 2 = 1 := by omega
      have epa' : fup e.pa j (g.pa j) = e.pa := by rw [← epa]; exact fup_id _ _
      rcases two with d2 | d2
      · have ix : atI [V.ref (g.pa j), V.ref r] (d % 2) = some (.ref (g.pa j)) := by rw [d2]; rfl
        refine ⟨_, rfl, _, _, rfl, rfl, by show (0 : Int) < 2; decide, ll, _, _, _, rfl, rfl, SqL.of upd_same, ix, Lr, _, _, rfl, rfl, lr7, szz, ?_⟩
        exact ⟨_, _, _, _, rfl, next _ (g.pa j) (wk5.same s57) (Chw.same s57) rfl rfl rfl rfl rfl rfl rfl rfl epa'.symm⟩
      · have ix : atI [V.ref (g.pa j), V.ref r] (d % 2) = some (.ref r) := by rw [d2]; rfl
        refine ⟨_, rfl, _, _, rfl, rfl, by show (0 : Int) < 2; decide, ll, _, _, _, rfl, rfl, SqL.of upd_same, ix, Lr, _, _, rfl, rfl, lr7, szz, ?_⟩
        have p6' : PartAt T.C H6 r q6 j (fup e.pn j (g.now + 1) j) (e.ow j) (fup e.he j he' j) := by rw [fup_same, fup_same]; exact p6
        have c6 := (B5.c.same s6).newPart (i := j) hjn p6' (B5.c.not_own nr) (B5.c.not_own nro) (B5.c.not_own nre)
        refine ⟨_, _, _, _, rfl, next { e with pn := fup e.pn j (g.now + 1), he := fup e.he j he', ba := fup e.ba j D, kh := putK e.kh (.inl (j : Int)) (.ref D), hs := fup e.hs j acc, hn := fup e.hn j an, pa := fup e.pa j r, pq := fup e.pq j q6 } r
          (Wk.same ⟨⟨c6, ⟨B5.t.kwN, B5.t.kwP, B5.t.kwY, B5.t.kwH, B5.t.kh, B5.t.ky, B5.t.kyk, B5.t.lw, B5.t.lh, B5.t.ly, B5.t.n2, B5.t.n4⟩⟩, wk5.p, wk5.h.ch (Ch.same (F := fun _ => False) s6)⟩ s7) ⟨.same s57, rfl, rfl, fun l _ => ?_⟩ rfl rfl rfl rfl rfl rfl rfl rfl rfl⟩
        cases l with
        | pa i =>
          show fup e.pa j r i = e.pa i ∨ H5 (fup e.pa j r i) = none
          by_cases c : i = j
          · rw [c, fup_same]; exact .inr nr
          · rw [fup_ne c]; exact .inl rfl
        | po i =>
          show (fup e.pq j q6 i).o = (e.pq i).o ∨ H5 (fup e.pq j q6 i).o = none
          by_cases c : i = j
          · rw [c, fup_same]; exact .inr nro
          · rw [fup_ne c]; exact .inl rfl
        | pe i =>
          show (fup e.pq j q6 i).e = (e.pq i).e ∨ H5 (fup e.pq j q6 i).e = none
          by_cases c : i = j
          · rw [c, fup_same]; exact .inr nre
          · rw [fup_ne c]; exact .inl rfl
        | _ => exact .inl rfl
    · rintro σ H1 ⟨e, v4, v5, v6, rfl, I⟩
      have Be := I.wk.b
      have In := I
      rw [show ((List.range g.n).map fun i => V.ref (g.pa i)).length = g.n from by rw [List.length_map, List.length_range]] at In
      have hw : H1 g.w = some (.dK e.kw) := by
        have h := Be.c.cell .web True.intro
        rw [show e.adr .web = g.w from I.w] at h
        exact h
      refine ⟨_, rfl, _, rfl, g.w, _, rfl, DPut.k (k := Sum.inr "parts") hw (Nat.lt_of_lt_of_le Be.t.lw (by decide)), ?_⟩
      have Bf : Wb T.C (upd H1 g.w (.dK (putK e.kw (.inr "parts") (.ref Lr)))) { e with aP := Lr, kw := putK e.kw (.inr "parts") (.ref Lr), pl := (List.range g.n).map fun l => V.ref (e.pa l) } := by
        rw [← I.w]
        exact Be.newP In.lr In.nl
      have chf : Ch e.own H1 (upd H1 e.w (.dK (putK e.kw (.inr "parts") (.ref Lr)))) := Be.c.oneCh .web True.intro _
      rw [I.w] at chf
      have nLr0 : H Lr = none := ch0.more _ nLr
      have cwf : Chw g { e with aP := Lr, kw := putK e.kw (.inr "parts") (.ref Lr), pl := (List.range g.n).map fun l => V.ref (e.pa l) } H (upd H1 g.w (.dK (putK e.kw (.inr "parts") (.ref Lr)))) := by
        have ownE : ∀ b u, H b = some u → ¬ g.own b → ¬ e.own b := fun b u hb nb => (I.cw.stay hb nb).2
        refine ⟨⟨fun b u hb nb => chf.keep b u (I.cw.ch.keep b u hb nb) (ownE b u hb nb), fun b xs hb => chf.tups b xs (I.cw.ch.tups b xs hb), fun b hb => I.cw.ch.more b (chf.more b hb)⟩, I.cw.n, I.cw.w, fun l dl => ?_⟩
        cases l with
        | prt => exact .inr nLr0
        | web => exact I.cw.adr .web dl
        | way => exact I.cw.adr .way dl
        | has => exact I.cw.adr .has dl
        | pa i => exact I.cw.adr (.pa i) dl
        | po i => exact I.cw.adr (.po i) dl
        | pe i => exact I.cw.adr (.pe i) dl
        | ba i => exact I.cw.adr (.ba i) dl
        | ya s t => exact I.cw.adr (.ya s t) dl
      refine post _ _ ⟨⟨Bf, I.wk.p, I.wk.h.ch chf⟩, ⟨?_, fun l hl => ?_⟩, ⟨fun l hl => ?_, fun l hl => ?_, fun l hl => ?_, fun s' t' => ?_⟩⟩ cwf
      · show _ = (List.range e.n).map _
        rw [I.n]
      · show e.pn l = e.now
        rw [I.now]
        exact In.pn l (by rw [← I.n]; exact hl)
      · have h1 := I.low l (by rw [← I.n]; exact hl)
        have h2 := W.ln.lo l (by rw [← I.n]; exact hl)
        show (e.ow l).length ≤ _
        omega
      · have h1 := I.lhe l (by rw [← I.n]; exact hl)
        have h2 := W.ln.lh l (by rw [← I.n]; exact hl)
        show (e.he l).length ≤ _
        omega
      · have h1 := I.lhs l (by rw [← I.n]; exact hl)
        have h2 := W.ln.lhs l (by rw [← I.n]; exact hl)
        show (e.hs l).length ≤ _
        omega
      · show (e.ys s' t').length ≤ _
        rw [I.ys]
        have h2 := W.ln.lys s' t'
        omega
theorem bTurn (T : TX K mg) : Binds K T.dTurn ["_law_web_here", "_law_house", "_law_draw"] [] := T.FTurn.binds (ps := ["_law_web_here", "_law_house", "_law_draw"]) fun _ _ _ _ _ _ us hl => match us, hl with | [_, _, _], _ => rfl
end
end K48

/-! stepped -/
namespace K48
open PySem PySem.Spec PyProof.Rows L2
section
variable {P : Program} {w : World} {K : PySem.W.Frag} {mg : Str → Option Value} {base : Heap}
theorem scStep : FnScope ["_law_web_here", "_law_draw", "_law_house", "_law_way"] ["_law_web_here", "_law_draw"] (defScope sStepped) := ⟨rfl, rfl, rfl, by decide +kernel, rfl, by decide +kernel, by decide +kernel⟩
def spStep (C : Addr) : Sp := fun vs H Q _ => ∃ (g : Wd) (k : Nat) (d : Int), vs = [.ref g.w, .int d] ∧ WIn C H g k ∧ k ≤ 60 ∧ Post C g k H Q
theorem ok_step (T : TX K mg) : FnOk P w K mg base CX0 7 T.aStep T.dStep ["_law_web_here", "_law_draw"] (spStep T.C) := by
  have GH : FnOk P w K mg base CX0 4 T.aHdd T.dHdd ["_law_web_here", "_law_house", "_law_draw"] (spHdd T.C) := ok_hdd T
  have GS : FnOk P w K mg base CX0 6 T.aSome T.dSome ["_law_web_here", "_law_draw"] (spSome T.C) := ok_some T
  have GK : FnOk P w K mg base CX0 2 T.aKept T.dKept ["_law_web_here", "_law_house", "_law_draw"] (spKept T.C) := ok_kept T
  have GT : FnOk P w K mg base CX0 5 T.aTurn T.dTurn ["_law_web_here", "_law_house", "_law_draw"] (spTurn T.C) := ok_turn T
  refine T.FStep.ok scStep (fun vs H Q E h => ?_) (fun cdv A outer s H vs Q E hr h => ?_)
  · obtain ⟨g, k, d, rfl, _⟩ := h
    rfl
  · obtain ⟨g, k, d, rfl, W, hk, post⟩ := h
    have hu := hu_of hr
    have hr4 : Room 4 _ := hr.mono (by decide)
    have hr2 : Room 2 _ := hr.mono (by decide)
    have hr5 : Room 5 _ := hr.mono (by decide)
    refine ⟨_, pss_cons (ps_set (i := 2) scStep.nd rfl (Or.inl rfl) (pe_op op_mod (pe_op op_fdiv (pv 1) pe_int) (pe_callB call_len_seq (by rfl) T.zLen PySem.boot_len (pa_cons (pe_dget hu (pv 0) pe_str (fun _ _ => rfl)) pa_nil))))
      (pss_cons (ps_set (i := 3) scStep.nd rfl (Or.inl rfl) (pe_op op_mod (pv 1) pe_int))
      (pss_one (ps_if (pt_cmpR op_lt (pv 3) pe_int (nomark _))
        (pss_one (ps_expr (pe_call GH hr4 (by rfl) T.gHdd T.FHdd.kp (bHdd T) .nil pass0 (pa_cons (pv 0) (pa_cons (pv 2) (pa_cons (pe_op op_fdiv (pv 1) pe_int) pa_nil))))))
        (pss_one (ps_if (pt_cmpR op_lt (pv 3) pe_int (nomark _))
          (pss_one (ps_expr (pe_call GS hr (by rfl) T.gSome T.FSome.kp (bSome T) .nil pass0 (pa_cons (pv 0) (pa_cons (pe_op op_fdiv (pv 1) pe_int) pa_nil)))))
          (pss_one (ps_if (pt_cmpR op_eq (pv 3) pe_int (nomark _))
            (pss_one (ps_expr (pe_call GK hr2 (by rfl) T.gKept T.FKept.kp (bKept T) .nil pass0 (pa_cons (pv 0) (pa_cons (pv 2) (pa_cons (pe_op op_fdiv (pv 1) pe_int) pa_nil))))))
            (pss_one (ps_expr (pe_call GT hr5 (by rfl) T.gTurn T.FTurn.kp (bTurn T) .nil pass0 (pa_cons (pv 0) (pa_cons (pv 2) (pa_cons (pe_op op_fdiv (pv 1) pe_int) pa_nil))))))))))))), ?_⟩
    have B := W.wk.b
    have hn2 := B.t.n2
    have len : (((List.range g.n).map fun j => V.ref (g.pa j)).length : Int) = (g.n : Int) := by rw [List.length_map, List.length_range]
    have m1 : 0 ≤ d / 8 % (g.n : Int) := Int.emod_nonneg _ (by omega)
    have m2 : d / 8 % (g.n : Int) < (g.n : Int) := Int.emod_lt_of_pos _ (by omega)
    obtain ⟨i, ei⟩ : ∃ i : Nat, d / 8 % (g.n : Int) = (i : Int) := ⟨(d / 8 % (g.n : Int)).toNat, by omega⟩
    have hi : i < g.n := by omega
    refine ⟨_, rfl, _, _, rfl, rfl, ⟨by decide, by decide⟩, _, rfl, g.w, _, rfl, B.gP, g.aP, _, rfl, .inl (SqL.of (B.lP W.lk)), ?_⟩
    rw [len]
    refine ⟨_, _, rfl, rfl, by omega, ?_⟩
    dsimp only
    rw [ei]
    refine ⟨_, rfl, _, _, rfl, rfl, by show (0 : Int) < 8; decide, ?_⟩
    refine ⟨_, rfl, _, _, rfl, rfl, _, rfl, ?_⟩
    refine ite2 (fun _ => ?_) (fun _ => ?_)
    · exact ⟨_, rfl, _, rfl, _, rfl, _, _, rfl, rfl, ⟨by decide, by decide⟩, g, k, i, d / 64, rfl, W, hi, hk, post⟩
    · refine ⟨_, rfl, _, _, rfl, rfl, _, rfl, ?_⟩
      refine ite2 (fun _ => ?_) (fun _ => ?_)
      · exact ⟨_, rfl, _, rfl, _, _, rfl, rfl, ⟨by decide, by decide⟩, g, k, d / 64, rfl, W, hk, post⟩
      · refine ⟨_, rfl, rfl, _, rfl, ?_⟩
        rw [dI]
        refine ite2 (fun _ => ?_) (fun _ => ?_)
        · exact ⟨_, rfl, _, rfl, _, rfl, _, _, rfl, rfl, ⟨by decide, by decide⟩, g, k, i, d / 64, rfl, W, hi, hk, post⟩
        · exact ⟨_, rfl, _, rfl, _, rfl, _, _, rfl, rfl, ⟨by decide, by decide⟩, g, k, i, d / 64, rfl, W, hk, post⟩
theorem bStep (T : TX K mg) : Binds K T.dStep ["_law_web_here", "_law_draw"] [] := T.FStep.binds (ps := ["_law_web_here", "_law_draw"]) fun _ _ _ _ _ _ us hl => match us, hl with | [_, _], _ => rfl
end
end K48

/-! the web at the start -/
namespace K48
open PySem PySem.Spec PyProof.Rows L2
/-- the places of the parts -/
def PD (n : Nat) : Loc → Prop
  | .pa i => i < n
  | .po i => i < n
  | .pe i => i < n
  | _ => False
structure CellsD (C : Addr) (H : Hp) (g : Wd) (D : Loc → Prop) : Prop where
  cell : ∀ l, D l → H (g.adr l) = some (g.cont C l)
  inj : ∀ l l', D l → D l' → g.adr l = g.adr l' → l = l'
theorem CellsD.same {C : Addr} {H H' : Hp} {g : Wd} {D : Loc → Prop} (c : CellsD C H g D) (s : Same H H') : CellsD C H' g D := ⟨fun l d => s _ _ (c.cell l d), c.inj⟩
theorem CellsD.add {C : Addr} {H : Hp} {g g' : Wd} {D D' : Loc → Prop} (c : CellsD C H g D) (l0 : Loc) {p : Addr} (hp : H p = none) (hD : ∀ l, D' l → l = l0 ∨ D l)
    (ha : ∀ l, D l → l ≠ l0 → g'.adr l = g.adr l) (hc : ∀ l, D l → l ≠ l0 → g'.cont C l = g.cont C l) (a0 : g'.adr l0 = p) {o : HO} (ho : o = g'.cont C l0) : CellsD C (upd H p o) g' D' := by
  have old : ∀ l, D' l → l ≠ l0 → D l := fun l d ne => (hD l d).resolve_left ne
  have away : ∀ l, D' l → l ≠ l0 → g'.adr l ≠ p := fun l d ne q => by
    rw [ha l (old l d ne) ne] at q
    have h := c.cell l (old l d ne)
    rw [q, hp] at h
    cases h
  refine ⟨fun l d => ?_, fun l l' d d' e => ?_⟩
  · by_cases q : l = l0
    · rw [q, a0, upd_same, ho]
    · rw [upd_ne (away l d q), ha l (old l d q) q, hc l (old l d q) q]
      exact c.cell l (old l d q)
  · by_cases q : l = l0
    · by_cases q' : l' = l0
      · rw [q, q']
      · rw [q, a0] at e
        exact absurd e.symm (away l' d' q')
    · by_cases q' : l' = l0
      · rw [q', a0] at e
        exact absurd e (away l d q)
      · rw [ha l (old l d q) q, ha l' (old l' d' q') q'] at e
        exact c.inj _ _ (old l d q) (old l' d' q') e
theorem CellsD.set {C : Addr} {H : Hp} {g g' : Wd} {D : Loc → Prop} (c : CellsD C H g D) (l0 : Loc) (d0 : D l0) (ha : ∀ l, g'.adr l = g.adr l) (hc : ∀ l, D l → l ≠ l0 → g'.cont C l = g.cont C l) {o : HO} (ho : o = g'.cont C l0) :
    CellsD C (upd H (g.adr l0) o) g' D := by
  refine ⟨fun l d => ?_, fun l l' d d' e => ?_⟩
  · rw [ha]
    by_cases e : l = l0
    · rw [e, upd_same, ho]
    · rw [upd_ne fun q => e (c.inj _ _ d d0 q), c.cell l d, hc l d e]
  · rw [ha, ha] at e
    exact c.inj _ _ d d' e
def kw0 (aP aY aB : Addr) : List (Key × V) := mergeK [] [(.inr "now", .int 0), (.inr "parts", .ref aP), (.inr "ways", .ref aY), (.inr "has", .ref aB)]
def hn0 (i : Nat) : List Nm := [((i : Int), 3 * (i : Int) + 1), ((i : Int), 10 + (i : Int))]
def mkW (g : Wd) (p aY aB : Addr) (kw : List (Key × V)) (ba : Nat → Addr) (ya : Nat → Nat → Addr) (hs : Nat → List V) (kh : List (Key × V)) (ky : List (List Key × V)) : Wd :=
  { n := g.n, now := 0, w := p, aP := g.aP, aY := aY, aB := aB, pa := g.pa, pq := g.pq, ba := ba, ya := ya, pn := fun _ => 0, ow := fun _ => [], he := fun _ => [], hs := hs, hn := hn0, ys := fun _ _ => [], kw := kw, kh := kh, ky := ky, pl := g.pl }
def DW (n a i j : Nat) : Loc → Prop
  | .web => True
  | .prt => True
  | .way => True
  | .has => True
  | .pa k => k < n
  | .po k => k < n
  | .pe k => k < n
  | .ba k => k < a
  | .ya s t => s < n ∧ t < n ∧ s ≠ t ∧ (s < i ∨ (s = i ∧ t < j))
structure WebIn (C : Addr) (H : Hp) (g : Wd) (p aY aB : Addr) (a i j : Nat) (H' : Hp) (ba : Nat → Addr) (ya : Nat → Nat → Addr) (hs : Nat → List V) (kh : List (Key × V)) (ky : List (List Key × V)) : Prop where
  c : CellsD C H' (mkW g p aY aB (kw0 g.aP aY aB) ba ya hs kh ky) (DW g.n a i j)
  s : Same H H'
  khv : ∀ k : Nat, k < a → valV kh (.inl (k : Int)) = some (.ref (ba k))
  lh : kh.length ≤ a
  kyv : ∀ s t : Nat, DW g.n a i j (.ya s t) → valV ky [.inl (s : Int), .inl (t : Int)] = some (.ref (ya s t))
  kyk : ∀ q ∈ ky, ∃ s t : Nat, s < g.n ∧ t < g.n ∧ s ≠ t ∧ q.1 = [.inl (s : Int), .inl (t : Int)]
  ly : ky.length ≤ 4 * i + j
  hsn : ∀ k, k < a → Paired (NmAt H') (hs k) (hn0 k)
  nn : ∀ l, DW g.n a i j l → l ≠ .prt → ¬ PD g.n l → H ((mkW g p aY aB (kw0 g.aP aY aB) ba ya hs kh ky).adr l) = none
theorem putK_mem {κ : Type} [DecidableEq κ] {kvs : List (κ × V)} {k : κ} {v : V} {q : κ × V} (h : q ∈ putK kvs k v) : q ∈ kvs ∨ q.1 = k := by
  unfold putK at h
  split at h
  · obtain ⟨x, hx, e⟩ := List.mem_map.mp h
    split at e
    · exact .inr (by rw [← e]; assumption)
    · exact .inl (by rw [← e]; exact hx)
  · rcases List.mem_append.mp h with h | h
    · exact .inl h
    · exact .inr (by rw [List.mem_singleton.mp h])
theorem kw0_now (aP aY aB : Addr) : valV (kw0 aP aY aB) (.inr "now") = some (.int 0) := by
  simp only [kw0, mergeK, List.foldl_cons, List.foldl_nil]
  rw [valV_put, if_neg (by decide +kernel), valV_put, if_neg (by decide +kernel), valV_put, if_neg (by decide +kernel), valV_put, if_pos rfl]
theorem kw0_parts (aP aY aB : Addr) : valV (kw0 aP aY aB) (.inr "parts") = some (.ref aP) := by
  simp only [kw0, mergeK, List.foldl_cons, List.foldl_nil]
  rw [valV_put, if_neg (by decide +kernel), valV_put, if_neg (by decide +kernel), valV_put, if_pos rfl]
theorem kw0_ways (aP aY aB : Addr) : valV (kw0 aP aY aB) (.inr "ways") = some (.ref aY) := by
  simp only [kw0, mergeK, List.foldl_cons, List.foldl_nil]
  rw [valV_put, if_neg (by decide +kernel), valV_put, if_pos rfl]
theorem kw0_has (aP aY aB : Addr) : valV (kw0 aP aY aB) (.inr "has") = some (.ref aB) := by
  simp only [kw0, mergeK, List.foldl_cons, List.foldl_nil]
  rw [valV_put, if_pos rfl]
theorem kw0_len (aP aY aB : Addr) : (kw0 aP aY aB).length < 100 := Nat.lt_of_le_of_lt (length_mergeK _ _) (by show 0 + 4 < 100; decide)
theorem hn0_valid {n i : Nat} (hi : i < n) {m : Nm} (h : m ∈ hn0 i) : Valid n m := by
  rcases List.mem_cons.mp h with rfl | h
  · exact ⟨i, hi, .inl rfl⟩
  · rcases List.mem_singleton.mp h with rfl
    exact ⟨i, hi, .inr rfl⟩
theorem hn0_home {i : Nat} {m : Nm} (h : m ∈ hn0 i) : m.1 = (i : Int) := by
  rcases List.mem_cons.mp h with rfl | h
  · rfl
  · rcases List.mem_singleton.mp h with rfl
    rfl
section
variable {C : Addr} {H H' : Hp} {g : Wd} {p aY aB : Addr} {a i j : Nat} {ba : Nat → Addr} {ya : Nat → Nat → Addr} {hs : Nat → List V} {kh : List (Key × V)} {ky : List (List Key × V)}
theorem WebIn.web (I : WebIn C H g p aY aB a i j H' ba ya hs kh ky) : H' p = some (.dK (kw0 g.aP aY aB)) := I.c.cell .web True.intro
theorem WebIn.has (I : WebIn C H g p aY aB a i j H' ba ya hs kh ky) : H' aB = some (.dK kh) := I.c.cell .has True.intro
theorem WebIn.way (I : WebIn C H g p aY aB a i j H' ba ya hs kh ky) : H' aY = some (.dT ky) := I.c.cell .way True.intro
theorem WebIn.same (I : WebIn C H g p aY aB a i j H' ba ya hs kh ky) {H2 : Hp} (s : Same H' H2) : WebIn C H g p aY aB a i j H2 ba ya hs kh ky :=
  ⟨I.c.same s, I.s.trans s, I.khv, I.lh, I.kyv, I.kyk, I.ly, fun k hk => pair_same s (I.hsn k hk), I.nn⟩
/-- .. of the next house -/
theorem WebIn.house (I : WebIn C H g p aY aB i i 0 H' ba ya hs kh ky) {b : Addr} {xs : List V} (nb : H' b = none) (hx : Paired (NmAt (upd (upd H' b (.lst xs)) aB (.dK (putK kh (.inl (i : Int)) (.ref b))))) xs (hn0 i)) :
    WebIn C H g p aY aB (i + 1) i 0 (upd (upd H' b (.lst xs)) aB (.dK (putK kh (.inl (i : Int)) (.ref b)))) (fup ba i b) ya (fup hs i xs) (putK kh (.inl (i : Int)) (.ref b)) ky := by
  have c1 : CellsD C (upd H' b (.lst xs)) (mkW g p aY aB (kw0 g.aP aY aB) (fup ba i b) ya (fup hs i xs) kh ky) (DW g.n (i + 1) i 0) := by
    refine I.c.add (g' := mkW g p aY aB (kw0 g.aP aY aB) (fup ba i b) ya (fup hs i xs) kh ky) (.ba i) nb (fun l d => ?_) (fun l d ne => ?_) (fun l d ne => ?_) fup_same ?_
    · cases l with
      | ba k =>
        by_cases e : k = i
        · exact .inl (by rw [e])
        · exact .inr (by have d : k < i + 1 := d; show k < i; omega)
      | _ => exact .inr d
    · cases l with
      | ba k => exact fup_ne fun e => ne (by rw [e])
      | _ => rfl
    · cases l with
      | ba k => exact congrArg HO.lst (fup_ne fun e => ne (by rw [e]))
      | _ => rfl
    · show HO.lst xs = HO.lst (fup hs i xs i)
      rw [fup_same]
  have hB : upd H' b (.lst xs) aB = some (.dK kh) := c1.cell .has True.intro
  have c2 := c1.set (g' := mkW g p aY aB (kw0 g.aP aY aB) (fup ba i b) ya (fup hs i xs) (putK kh (.inl (i : Int)) (.ref b)) ky) .has True.intro (fun l => by cases l <;> rfl) (fun l _ ne => by cases l <;> first | rfl | exact absurd rfl ne) (o := .dK (putK kh (.inl (i : Int)) (.ref b))) rfl
  have s1 := Same.new (o := .lst xs) nb
  have nB : H aB = none := I.nn .has True.intro (by intro z; cases z) (fun z => z)
  have ch : Ch (fun q => q = aB) (upd H' b (.lst xs)) (upd (upd H' b (.lst xs)) aB (.dK (putK kh (.inl (i : Int)) (.ref b)))) := Ch.upd rfl hB (fun xs z => nomatch z)
  refine ⟨c2, fun q u e => ?_, fun k hk => ?_, ?_, I.kyv, I.kyk, I.ly, fun k hk => ?_, fun l d np npd => ?_⟩
  · rw [upd_ne (ne_of_none e nB)]
    exact (I.s.trans s1) _ _ e
  · show valV (putK kh (.inl (i : Int)) (.ref b)) (.inl (k : Int)) = some (.ref (fup ba i b k))
    rw [valV_put]
    by_cases e : k = i
    · rw [e, if_pos rfl, fup_same]
    · rw [if_neg fun q => e (by have := Sum.inl.inj q; omega), fup_ne e]
      exact I.khv k (by omega)
  · have h1 := length_putK kh (.inl (i : Int)) (.ref b)
    have h2 := I.lh
    omega
  · by_cases e : k = i
    · rw [e, fup_same]; exact hx
    · rw [fup_ne e]
      exact pair_ch ch (pair_same s1 (I.hsn k (by omega)))
  · cases l with
    | ba k =>
      show H (fup ba i b k) = none
      by_cases e : k = i
      · rw [e, fup_same]; exact I.s.free nb
      · rw [fup_ne e]
        exact I.nn (.ba k) (by have d : k < i + 1 := d; show k < i; omega) np npd
    | web => exact I.nn .web d np npd
    | prt => exact absurd rfl np
    | way => exact I.nn .way d np npd
    | has => exact nB
    | pa k => exact absurd d npd
    | po k => exact absurd d npd
    | pe k => exact absurd d npd
    | ya s t => exact I.nn (.ya s t) d np npd
/-- .. of the next way -/
theorem WebIn.to (I : WebIn C H g p aY aB a i j H' ba ya hs kh ky) (hi : i < g.n) (hj : j < g.n) (hij : i ≠ j) {l : Addr} (nl : H' l = none) {H2 : Hp} (s2 : Same (upd H' l (.lst [])) H2) :
    WebIn C H g p aY aB a i (j + 1) (upd H2 aY (.dT (putK ky [.inl (i : Int), .inl (j : Int)] (.ref l)))) ba (fup2 ya i j l) hs kh (putK ky [.inl (i : Int), .inl (j : Int)] (.ref l)) := by
  have c1 : CellsD C (upd H' l (.lst [])) (mkW g p aY aB (kw0 g.aP aY aB) ba (fup2 ya i j l) hs kh ky) (DW g.n a i (j + 1)) := by
    refine I.c.add (g' := mkW g p aY aB (kw0 g.aP aY aB) ba (fup2 ya i j l) hs kh ky) (.ya i j) nl (fun l d => ?_) (fun l d ne => ?_) (fun l d ne => by cases l <;> rfl) fup2_same rfl
    · cases l with
      | ya s t =>
        by_cases e : s = i ∧ t = j
        · exact .inl (by rw [e.1, e.2])
        · obtain ⟨d1, d2, d3, d4⟩ : s < g.n ∧ t < g.n ∧ s ≠ t ∧ (s < i ∨ (s = i ∧ t < j + 1)) := d
          exact .inr ⟨d1, d2, d3, by omega⟩
      | _ => exact .inr d
    · cases l with
      | ya s t => exact fup2_ne fun e => ne (by rw [e.1, e.2])
      | _ => rfl
  have c1 := c1.same s2
  have hY : H2 aY = some (.dT ky) := c1.cell .way True.intro
  have c2 := c1.set (g' := mkW g p aY aB (kw0 g.aP aY aB) ba (fup2 ya i j l) hs kh (putK ky [.inl (i : Int), .inl (j : Int)] (.ref l))) .way True.intro (fun l => by cases l <;> rfl) (fun l _ ne => by cases l <;> first | rfl | exact absurd rfl ne) (o := .dT (putK ky [.inl (i : Int), .inl (j : Int)] (.ref l))) rfl
  have s1 := (Same.new (o := .lst []) nl).trans s2
  have nY : H aY = none := I.nn .way True.intro (by intro z; cases z) (fun z => z)
  have ch : Ch (fun q => q = aY) H2 (upd H2 aY (.dT (putK ky [.inl (i : Int), .inl (j : Int)] (.ref l)))) := Ch.upd rfl hY (fun xs z => nomatch z)
  refine ⟨c2, fun q u e => ?_, I.khv, I.lh, fun s t d => ?_, fun q hq => ?_, ?_, fun k hk => pair_ch ch (pair_same s1 (I.hsn k hk)), fun l' d np npd => ?_⟩
  · rw [upd_ne (ne_of_none e nY)]
    exact (I.s.trans s1) _ _ e
  · rw [valV_put]
    obtain ⟨d1, d2, d3, d4⟩ : s < g.n ∧ t < g.n ∧ s ≠ t ∧ (s < i ∨ (s = i ∧ t < j + 1)) := d
    by_cases e : s = i ∧ t = j
    · rw [e.1, e.2, if_pos rfl, fup2_same]
    · rw [if_neg fun q => e (by
        injection q with q1 q2
        injection q2 with q2 _
        have := Sum.inl.inj q1
        have := Sum.inl.inj q2
        omega), fup2_ne e]
      exact I.kyv s t ⟨d1, d2, d3, by omega⟩
  · rcases putK_mem hq with hq | hq
    · exact I.kyk q hq
    · exact ⟨i, j, hi, hj, hij, hq⟩
  · have h1 := length_putK ky [.inl (i : Int), .inl (j : Int)] (.ref l)
    have h2 := I.ly
    omega
  · cases l' with
    | ya s t =>
      show H (fup2 ya i j l s t) = none
      obtain ⟨d1, d2, d3, d4⟩ : s < g.n ∧ t < g.n ∧ s ≠ t ∧ (s < i ∨ (s = i ∧ t < j + 1)) := d
      by_cases e : s = i ∧ t = j
      · rw [e.1, e.2, fup2_same]; exact I.s.free nl
      · rw [fup2_ne e]
        exact I.nn (.ya s t) ⟨d1, d2, d3, by omega⟩ np npd
    | web => exact I.nn .web d np npd
    | prt => exact absurd rfl np
    | way => exact nY
    | has => exact I.nn .has d np npd
    | pa k => exact absurd d npd
    | po k => exact absurd d npd
    | pe k => exact absurd d npd
    | ba k => exact I.nn (.ba k) d np npd
/-- .. where a house is its own -/
theorem WebIn.skip (I : WebIn C H g p aY aB a i j H' ba ya hs kh ky) (hij : i = j) : WebIn C H g p aY aB a i (j + 1) H' ba ya hs kh ky := by
  have k : ∀ l, DW g.n a i (j + 1) l → DW g.n a i j l := fun l d => by
    cases l with
    | ya s t =>
      obtain ⟨d1, d2, d3, d4⟩ : s < g.n ∧ t < g.n ∧ s ≠ t ∧ (s < i ∨ (s = i ∧ t < j + 1)) := d
      exact ⟨d1, d2, d3, by omega⟩
    | _ => exact d
  exact ⟨⟨fun l d => I.c.cell l (k l d), fun l l' d d' e => I.c.inj l l' (k l d) (k l' d') e⟩, I.s, I.khv, I.lh, fun s t d => I.kyv s t (k _ d), I.kyk, Nat.le_succ_of_le I.ly, I.hsn, fun l d => I.nn l (k l d)⟩
theorem WebIn.next (I : WebIn C H g p aY aB a i g.n H' ba ya hs kh ky) (h4 : g.n ≤ 4) : WebIn C H g p aY aB a (i + 1) 0 H' ba ya hs kh ky := by
  have k : ∀ l, DW g.n a (i + 1) 0 l → DW g.n a i g.n l := fun l d => by
    cases l with
    | ya s t =>
      obtain ⟨d1, d2, d3, d4⟩ : s < g.n ∧ t < g.n ∧ s ≠ t ∧ (s < i + 1 ∨ (s = i + 1 ∧ t < 0)) := d
      exact ⟨d1, d2, d3, by omega⟩
    | _ => exact d
  exact ⟨⟨fun l d => I.c.cell l (k l d), fun l l' d d' e => I.c.inj l l' (k l d) (k l' d') e⟩, I.s, I.khv, I.lh, fun s t d => I.kyv s t (k _ d), I.kyk, by have := I.ly; omega, I.hsn, fun l d => I.nn l (k l d)⟩
theorem WebIn.done (I : WebIn C H g p aY aB g.n g.n 0 H' ba ya hs kh ky) (h2 : 2 ≤ g.n) (h4 : g.n ≤ 4) (hpl : g.pl = (List.range g.n).map fun i => V.ref (g.pa i)) :
    WIn C H' (mkW g p aY aB (kw0 g.aP aY aB) ba ya hs kh ky) 0 := by
  have k : ∀ l, (mkW g p aY aB (kw0 g.aP aY aB) ba ya hs kh ky).dom l → DW g.n g.n g.n 0 l := fun l d => by
    cases l with
    | ya s t =>
      obtain ⟨d1, d2, d3⟩ : s < g.n ∧ t < g.n ∧ s ≠ t := d
      exact ⟨d1, d2, d3, .inl d1⟩
    | _ => exact d
  have no : ∀ {m : Nm}, (lk [] m).isSome = true → False := fun h => nomatch h
  refine ⟨⟨⟨⟨fun l d => I.c.cell l (k l d), fun l l' d d' e => I.c.inj l l' (k l d) (k l' d') e⟩,
      ⟨kw0_now .., kw0_parts .., kw0_ways .., kw0_has .., I.khv, fun s t hs ht hst => I.kyv s t ⟨hs, ht, hst, .inl hs⟩, I.kyk, kw0_len .., Nat.lt_of_le_of_lt I.lh (by show g.n < 100; omega), Nat.lt_of_le_of_lt I.ly (by omega), h2, h4⟩⟩,
    ⟨Int.le_refl 0, fun i hi m hm => hn0_valid hi hm, fun i hi => List.mem_cons_self .., fun i hi m ne => ⟨fun h => (no h).elim, fun h => absurd (hn0_home h) ne⟩, fun i hi m h => (no h).elim, fun i hi m h => (no h).elim,
      fun _ _ => Nd.nil, fun _ _ => Nd.nil, fun i hi m x h => (nomatch h), fun m _ => ?_, fun m _ => ?_⟩, ⟨I.hsn, fun _ _ _ _ _ v hv => (nomatch hv)⟩⟩,
    ⟨hpl, fun _ _ => rfl⟩, ⟨fun _ _ => Nat.le_refl _, fun _ _ => Nat.le_refl _, fun l hl => ?_, fun _ _ => Nat.zero_le _⟩⟩
  · show Lf (fun _ => []) m ≤ 0 + 8
    show (-1 : Int) ≤ 0 + 8
    decide
  · show (-1 : Int) ≤ -1
    decide
  · show (hs l).length ≤ 2 + 0
    rw [Paired.length (I.hsn l hl)]
    exact Nat.le_refl _
end
section
variable {P : Program} {w : World} {K : PySem.W.Frag} {mg : Str → Option Value} {base : Heap}
theorem scWeb : FnScope ["_law_parts", "_law_many", "_law_web_here", "_law_house", "_law_to"] ["_law_parts"] (defScope sWeb) := ⟨rfl, rfl, rfl, by decide +kernel, rfl, by decide +kernel, by decide +kernel⟩
def spWeb (C : Addr) : Sp := fun vs H Q _ => ∃ (g : Wd), vs = [.ref g.aP] ∧ 2 ≤ g.n ∧ g.n ≤ 4 ∧ (g.pn = fun _ => 0) ∧ (g.ow = fun _ => []) ∧ (g.he = fun _ => []) ∧ (g.pl = (List.range g.n).map fun i => V.ref (g.pa i)) ∧
  CellsD C H g (fun l => l = .prt ∨ PD g.n l) ∧ ∀ (H' : Hp) (g' : Wd), Same H H' → WIn C H' g' 0 → g'.n = g.n → (∀ l, g'.dom l → (l = .prt ∨ PD g.n l) ∧ g'.adr l = g.adr l ∨ H (g'.adr l) = none) → Q (.ref g'.w) H'
theorem ok_web (T : TX K mg) : FnOk P w K mg base CX0 1 T.aWeb T.dWeb ["_law_parts"] (spWeb T.C) := by
  refine T.FWeb.ok scWeb (fun vs H Q E h => ?_) (fun cdv A outer s H vs Q E hr h => ?_)
  · obtain ⟨g, rfl, _⟩ := h
    rfl
  · obtain ⟨g, rfl, h2, h4, hpn, how, hhe, hpl, hc, k⟩ := h
    have hu := hu_of hr
    refine ⟨_, pss_cons (ps_set (i := 1) scWeb.nd rfl (Or.inl rfl) (pe_callB call_len_seq (by rfl) T.zLen PySem.boot_len (pa_cons (pv 0) pa_nil)))
      (pss_cons (ps_set (i := 2) scWeb.nd rfl (Or.inl rfl) (pe_disp (pps_cons pe_str pe_int (pps_cons pe_str (pv 0) (pps_cons pe_str pe_dnewT (pps_cons pe_str pe_dnewK pps_nil)))) rfl rfl (fun h => nomatch h) (by decide)))
      (pss_cons (ps_for PassesOwn.never rfl (pi_range1 (by rfl) T.zRange (pa_cons (pv 1) pa_nil)) (pg_name (i := 3) scWeb.nd rfl (Or.inl rfl))
        (pss_cons (ps_dput hu (pe_dget hu (pv 2) pe_str (fun _ _ => rfl)) (pv 3) (pe_lst (pa_cons (pe_tup (pa_cons (pv 3) (pa_cons (pe_op op_add (pe_op op_mul pe_int (pv 3)) pe_int) pa_nil)))
          (pa_cons (pe_tup (pa_cons (pv 3) (pa_cons (pe_op op_add pe_int (pv 3)) pa_nil))) pa_nil))) rfl)
        (pss_one (ps_for PassesOwn.never rfl (pi_range1 (by rfl) T.zRange (pa_cons (pv 1) pa_nil)) (pg_name (i := 4) scWeb.nd rfl (Or.inl rfl))
          (pss_one (ps_if (pt_cmpR op_ne (pv 4) (pv 3) (nomark _)) (pss_one (ps_dput hu (pe_dget hu (pv 2) pe_str (fun _ _ => rfl)) (pe_tup (pa_cons (pv 3) (pa_cons (pv 4) pa_nil))) (pe_lst pa_nil) rfl)) pss_nil))))))
      (pss_one (ps_ret (pv 2))))), ?_⟩
    have hP : H g.aP = some (.lst g.pl) := hc.cell .prt (.inl rfl)
    have len : (g.pl.length : Int) = (g.n : Int) := by rw [hpl, List.length_map, List.length_range]
    refine ⟨_, rfl, g.aP, _, rfl, .inl (SqL.of hP), ?_⟩
    rw [len]
    refine fun p np => ⟨_, rfl, fun aY nY aB nB => ?_⟩
    have s1 := Same.new (o := .dK []) np
    have s2 := Same.new (o := .dT []) nY
    have s3 := Same.new (o := .dK []) nB
    have nY0 := s1.free nY
    have nB0 := (s1.trans s2).free nB
    refine ⟨s3 _ _ (s2 _ _ upd_same), [(.inr "now", .int 0), (.inr "parts", .ref g.aP), (.inr "ways", .ref aY), (.inr "has", .ref aB)], rfl, by show 4 ≤ 15; decide, ?_⟩
    have c0 : CellsD T.C (upd (upd (upd H p (.dK [])) aY (.dT [])) aB (.dK [])) (mkW g p aY aB [] g.ba g.ya g.hs [] []) (DW g.n 0 0 0) := by
      have c1 : CellsD T.C (upd H p (.dK [])) (mkW g p aY aB [] g.ba g.ya g.hs [] []) (fun l => l = .web ∨ l = .prt ∨ PD g.n l) := by
        refine hc.add .web np (fun l d => d) (fun l d ne => ?_) (fun l d ne => ?_) rfl rfl
        · rcases d with rfl | d
          · rfl
          · cases l <;> first | exact d.elim | rfl
        · rcases d with rfl | d
          · rfl
          · cases l <;> first | exact d.elim | (simp only [Wd.cont, mkW, hpn, how, hhe])
      have c2 : CellsD T.C (upd (upd H p (.dK [])) aY (.dT [])) (mkW g p aY aB [] g.ba g.ya g.hs [] []) (fun l => l = .way ∨ l = .web ∨ l = .prt ∨ PD g.n l) :=
        c1.add .way nY (fun l d => d) (fun l d ne => rfl) (fun l d ne => rfl) rfl rfl
      refine c2.add .has nB (fun l d => ?_) (fun l d ne => rfl) (fun l d ne => rfl) rfl rfl
      cases l with
      | web => exact .inr (.inr (.inl rfl))
      | prt => exact .inr (.inr (.inr (.inl rfl)))
      | way => exact .inr (.inl rfl)
      | has => exact .inl rfl
      | pa k => exact .inr (.inr (.inr (.inr d)))
      | po k => exact .inr (.inr (.inr (.inr d)))
      | pe k => exact .inr (.inr (.inr (.inr d)))
      | ba k => exact absurd d (Nat.not_lt_zero _)
      | ya s t => exact absurd d.2.2.2 (by omega)
    have I0 : WebIn T.C H g p aY aB 0 0 0 (upd (upd (upd (upd H p (.dK [])) aY (.dT [])) aB (.dK [])) p (.dK (kw0 g.aP aY aB))) g.ba g.ya g.hs [] [] := by
      refine ⟨c0.set .web True.intro (fun l => by cases l <;> rfl) (fun l _ ne => by cases l <;> first | rfl | exact absurd rfl ne) rfl, fun b u e => ?_, fun k hk => absurd hk (Nat.not_lt_zero _), Nat.le_refl _, fun s t d => absurd d.2.2.2 (by omega), fun q hq => (nomatch hq), Nat.le_refl _, fun k hk => absurd hk (Nat.not_lt_zero _), fun l d np' npd => ?_⟩
      · rw [upd_ne (ne_of_none e np)]
        exact s3 _ _ (s2 _ _ (s1 _ _ e))
      · cases l with
        | web => exact np
        | prt => exact absurd rfl np'
        | way => exact nY0
        | has => exact nB0
        | pa k => exact absurd d npd
        | po k => exact absurd d npd
        | pe k => exact absurd d npd
        | ba k => exact absurd d (Nat.not_lt_zero _)
        | ya s t => exact absurd d.2.2.2 (by omega)
    refine ⟨_, rfl, (g.n : Int), rfl, by omega, by omega, for_range (lo := 0) (n := (g.n : Int).toNat) (fun i σ H' => ∃ (v3 v4 : Option V) (ba : Nat → Addr) (ya : Nat → Nat → Addr) (hs : Nat → List V) (kh : List (Key × V)) (ky : List (List Key × V)),
        σ = [some (.ref g.aP), some (.int (g.n : Int)), some (.ref p), v3, v4] ∧ WebIn T.C H g p aY aB i i 0 H' ba ya hs kh ky)
      ⟨none, none, _, _, _, _, _, rfl, I0⟩ ?_ ?_⟩
    · rintro i σ H1 hi ⟨v3, v4, ba, ya, hs, kh, ky, rfl, I⟩
      have hi' : i < g.n := by omega
      rw [Int.zero_add]
      refine ⟨_, rfl, _, rfl, _, _, rfl, rfl, .inl ⟨by decide, by decide⟩, _, _, rfl, rfl, by show 2 ≤ sizeLine; decide, fun t1 m1 => ?_⟩
      refine ⟨_, rfl, _, rfl, _, _, rfl, rfl, by show 2 ≤ sizeLine; decide, fun t2 m2 => ⟨by show 2 ≤ sizeLine; decide, fun b nb => ?_⟩⟩
      have q1 := Same.new (o := .tup [.int (i : Int), .int (3 * (i : Int) + 1)]) m1
      have q2 := Same.new (o := .tup [.int (i : Int), .int (10 + (i : Int))]) m2
      have I2 := I.same (q1.trans q2)
      have q3 := Same.new (o := .lst [.ref t1, .ref t2]) nb
      have I3 := I2.same q3
      refine ⟨_, rfl, p, _, rfl, by have h := DGet.k (k := Sum.inr "has") I3.web; rw [kw0_has] at h; exact h, _, rfl, aB, _, rfl, DPut.k (k := Sum.inl (i : Int)) I3.has (Nat.lt_of_le_of_lt I.lh (by rw [sizeLine_eq]; omega)), ?_⟩
      have chB : Ch (fun q => q = aB) _ (upd (upd (upd (upd H1 t1 (.tup [.int (i : Int), .int (3 * (i : Int) + 1)])) t2 (.tup [.int (i : Int), .int (10 + (i : Int))])) b (.lst [.ref t1, .ref t2])) aB (.dK (putK kh (.inl (i : Int)) (.ref b)))) := Ch.upd rfl I3.has (fun xs z => nomatch z)
      have I4 := I2.house (b := b) (xs := [.ref t1, .ref t2]) nb (.cons ⟨t1, rfl, chB.tups _ _ (q3 _ _ (q2 _ _ upd_same))⟩ (.cons ⟨t2, rfl, chB.tups _ _ (q3 _ _ upd_same)⟩ .nil))
      refine ⟨_, rfl, (g.n : Int), rfl, by omega, by omega, for_range (lo := 0) (n := (g.n : Int).toNat) (fun j σ H' => ∃ (v4 : Option V) (ba : Nat → Addr) (ya : Nat → Nat → Addr) (hs : Nat → List V) (kh : List (Key × V)) (ky : List (List Key × V)),
          σ = [some (.ref g.aP), some (.int (g.n : Int)), some (.ref p), some (.int (i : Int)), v4] ∧ WebIn T.C H g p aY aB (i + 1) i j H' ba ya hs kh ky)
        ⟨v4, _, _, _, _, _, rfl, I4⟩ ?_ ?_⟩
      · rintro j σ H5 hj ⟨v4, ba, ya, hs, kh, ky, rfl, I5⟩
        have hj' : j < g.n := by omega
        rw [Int.zero_add]
        refine ⟨_, rfl, _, rfl, rfl, _, rfl, ?_⟩
        rw [dI]
        refine ite2 (fun ne => ?_) (fun ne => ?_)
        · have hij : i ≠ j := fun e => by rw [e] at ne; simp at ne
          refine ⟨Nat.zero_le _, fun l nl => ?_⟩
          have q5 := Same.new (o := .lst []) nl
          have I6 := I5.same q5
          refine ⟨_, rfl, p, _, rfl, by have h := DGet.k (k := Sum.inr "ways") I6.web; rw [kw0_ways] at h; exact h, _, rfl, _, rfl, by show 2 ≤ sizeLine; decide, fun U nU => ?_⟩
          have q6 := Same.new (o := .tup [.int (i : Int), .int (j : Int)]) nU
          refine ⟨aY, _, rfl, DPut.t (k := [Sum.inl (i : Int), Sum.inl (j : Int)]) (I6.same q6).way upd_same (Nat.lt_of_le_of_lt I6.ly (by rw [sizeLine_eq]; omega)), ?_⟩
          exact ⟨_, _, _, _, _, _, rfl, I5.to hi' hj' hij nl q6⟩
        · have hij : i = j := by
            simp at ne
            omega
          exact ⟨_, _, _, _, _, _, rfl, I5.skip hij⟩
      · rintro σ H5 ⟨v4, ba, ya, hs, kh, ky, rfl, I5⟩
        rw [show (g.n : Int).toNat = g.n from Int.toNat_natCast _] at I5
        exact ⟨_, _, _, _, _, _, _, rfl, I5.next h4⟩
    · rintro σ H1 ⟨v3, v4, ba, ya, hs, kh, ky, rfl, I⟩
      rw [show (g.n : Int).toNat = g.n from Int.toNat_natCast _] at I
      refine ⟨_, rfl, k H1 _ I.s (I.done h2 h4 hpl) rfl fun l d => ?_⟩
      by_cases c1 : l = .prt
      · exact .inl ⟨.inl c1, by rw [c1]; rfl⟩
      · by_cases c2 : PD g.n l
        · exact .inl ⟨.inr c2, by cases l <;> first | exact c2.elim | rfl⟩
        · refine .inr (I.nn l ?_ c1 c2)
          cases l with
          | ya s t =>
            obtain ⟨d1, d2, d3⟩ : s < g.n ∧ t < g.n ∧ s ≠ t := d
            exact ⟨d1, d2, d3, .inl d1⟩
          | _ => exact d
theorem bWeb (T : TX K mg) : Binds K T.dWeb ["_law_parts"] [] := T.FWeb.binds (ps := ["_law_parts"]) fun _ _ _ _ _ _ us hl => match us, hl with | [_], _ => rfl
end
end K48

/-! leases -/
namespace K48
open PySem PySem.Spec PyProof.Rows L2
theorem ls_hr : decide (V.str "hand" = V.str "renew") = false := by decide +kernel
theorem ls_lr : decide (V.str "lent" = V.str "renew") = false := by decide +kernel
theorem mem_snoc_le {acc : List Int} {x b : Int} (h : ∀ z ∈ acc, z ≤ b) (hx : x ≤ b) : ∀ z ∈ acc ++ [x], z ≤ b := fun z hz => by
  rcases List.mem_append.mp hz with hz | hz
  · exact h z hz
  · rw [List.mem_singleton.mp hz]; exact hx
section
variable {P : Program} {w : World} {K : PySem.W.Frag} {mg : Str → Option Value} {base : Heap}
theorem scLs : FnScope ["_law_web_here", "_law_name", "_law_leases_here", "_law_house", "_law_part", "_law_way", "_law_body"] ["_law_web_here", "_law_name"] (defScope sLeases) := ⟨rfl, rfl, rfl, by decide +kernel, by decide +kernel, by decide +kernel, by decide +kernel⟩
def spLs (C : Addr) : Sp := fun vs H Q _ => ∃ (g : Wd) (k : Nat) (y : Addr) (m : Nm), vs = [.ref g.w, .ref y] ∧ WIn C H g k ∧ k ≤ 60 ∧ NmT H y m ∧ Valid g.n m ∧
  ∀ (H' : Hp) (l : Addr) (xs : List Int), Same H H' → H' l = some (.lst (xs.map V.int)) → 0 < xs.length → (∀ x ∈ xs, x ≤ Lf g.ow m) → Q (.ref l) H'
theorem ok_ls (T : TX K mg) : FnOk P w K mg base CX0 3 T.aLs T.dLs ["_law_web_here", "_law_name"] (spLs T.C) := by
  have GL : FnOk P w K mg base CX0 2 T.aLease T.dLease ["self", "name"] (spLease T.C) := ok_lease T
  have GK : FnOk P w K mg base CX0 1 T.aKnows T.dKnows ["self", "name"] (spKnows T.C) := ok_knows T
  refine T.FLs.ok scLs (fun vs H Q E h => ?_) (fun cdv A outer s H vs Q E hr h => ?_)
  · obtain ⟨g, k, y, m, rfl, _⟩ := h
    rfl
  · obtain ⟨g, k, y, m, rfl, W, hk, hy, hv, post⟩ := h
    have hu := hu_of hr
    have hu4 := hu64 hr
    have hu5 := hu65 hr
    have hr1 : Room 1 _ := hr.mono (by decide)
    refine ⟨_, pss_cons (ps_set (i := 2) scLs.nd rfl (Or.inl rfl) (pe_lst pa_nil))
      (pss_cons (ps_for PassesOwn.never rfl (pi_enum (by rfl) T.zEnum (pa_cons (pe_dget hu (pv 0) pe_str (fun _ _ => rfl)) pa_nil))
          (pg_tup (by rfl) (pgs_cons (pg_name (i := 3) scLs.nd rfl (Or.inl rfl)) (pgs_cons (pg_name (i := 4) scLs.nd rfl (Or.inl rfl)) pgs_nil)))
        (pss_one (ps_if (pt_cmpR op_ne (pv 3) (pe_ix ix_tup (pv 1) pe_int (fun _ _ => rfl)) (nomark _))
          (pss_cons (ps_expr (pe_bm PySem.F.plainAttrs_list PySem.F.slot_list_append PySem.F.type_list_append mt_append (pv 2) (pa_cons (pe_meth (pv 4) T.cl T.mLease GL hr (bLease T) .nil pass0 (pa_cons (pv 1) pa_nil)) pa_nil)))
          (pss_one (ps_if (pt_cmpR op_ne (pe_meth (pv 4) T.cl T.mKnows GK hr1 (bKnows T) .nil pass0 (pa_cons (pv 1) pa_nil)) (pe_cmpR (op_inD hu5) (pv 1) (pe_dget hu (pe_dget hu (pv 0) pe_str (fun _ _ => rfl)) (pv 3) (fun _ _ => rfl)) (by rfl)) (by rfl))
            (pss_one (ps_ret pe_non)) pss_nil))) pss_nil)))
      (pss_cons (ps_lock (ps_for PassesOwn.never rfl (pi_keys (pe_dget hu (pv 0) pe_str (fun _ _ => rfl))) (pg_name (i := 5) scLs.nd rfl (Or.inl rfl))
        (pss_one (ps_set (i := 2) scLs.nd rfl (Or.inl rfl) (pe_op op_cat (pv 2)
          (pe_lc (own := [("_law_body", 6)]) (g := gName 6) (tt := tAnd (tTest (tOp (rEqD K) (tOp (rIxT K) (tVar 6) (tC (.int 1))) (tVar 1))) (tTest (tOp rNe (tOp (rIxT K) (tVar 6) (tC (.int 0))) (tC (.str "renew"))))) (te := tOp (rIxT K) (tVar 6) (tC (.int 2))) rfl scLs.nd (pi_list (pe_dget hu (pe_dget hu (pv 0) pe_str (fun _ _ => rfl)) (pv 5) (fun _ _ => rfl)))
              (blkOk_by (own := [("_law_body", 6)]) (N := ["_law_web_here", "_law_name", "_law_leases_here", "_law_house", "_law_part", "_law_way", "_law_body"]) (sc := defScope sLeases) (by decide +kernel)) (fun _ _ _ _ _ => pg_name (i := 6) scLs.nd rfl (Or.inl rfl))
              (fun _ _ _ _ _ => pts_one (PW.pt (pw_and (pt_cmpR (r := rEqD K) (op_eqD hu4) (pe_ix (r := rIxT K) ix_tup (pv 6) pe_int (fun _ _ => rfl)) (pv 1) (nomark _)) (pw_and1 (pt_cmpR op_ne (pe_ix (r := rIxT K) ix_tup (pv 6) pe_int (fun _ _ => rfl)) pe_str (nomark _))))))
              (fun _ _ _ _ _ => pe_ix (r := rIxT K) ix_tup (pv 6) pe_int (fun _ _ => rfl))))))))
      (pss_one (ps_ret (pv 2))))), ?_⟩
    have B := W.wk.b
    have hn2 := B.t.n2
    have hn4 := B.t.n4
    refine ⟨Nat.zero_le _, fun L nL => ?_⟩
    have s0 := Same.new (o := .lst []) nL
    have W0 := W.same s0
    have hpl := W.lk.pl
    refine ⟨_, rfl, g.w, _, rfl, W0.wk.b.gP, g.aP, _, rfl, SqL.of (W0.wk.b.lP W0.lk), for_it (walk_enum (K := K) (a := g.aP) (xs := (List.range g.n).map fun i => V.ref (g.pa i))) (fun j σ H' => ∃ (acc : List Int) (v3 v4 : Option V), σ = [some (.ref g.w), some (.ref y), some (.ref L), v3, v4, none, none] ∧ Same H H' ∧ H' L = some (.lst (acc.map V.int)) ∧
        acc.length ≤ j ∧ (∀ z ∈ acc, z ≤ Lf g.ow m) ∧ ((∃ i : Nat, i < j ∧ m.1 ≠ (i : Int)) → 0 < acc.length))
      ⟨[], none, none, rfl, s0, upd_same, Nat.le_refl _, (fun _ h => nomatch h), fun ⟨i, h, _⟩ => absurd h (Nat.not_lt_zero _)⟩ (fun j σ H' _ ⟨_, _, _, _, s, _⟩ => SqL.of ((B.same s).lP W.lk)) ?_ ?_⟩
    · rintro j x σ H1 H2 hj ⟨acc, v3, v4, rfl, s, hL, hal, hacc, hne⟩ ⟨U, a1, a2, rfl, nU, rfl, e1, e2⟩
      cases e1
      have hj : j < g.n := by rw [List.length_map, List.length_range] at hj; exact hj
      have e2 : ((List.range g.n).map fun i => V.ref (g.pa i))[j]? = some a2 := e2
      rw [range_at hj] at e2
      cases e2
      have sU := Same.new (o := .tup [.int (j : Nat), .ref (g.pa j)]) nU
      have sA := s.trans sU
      have W2 := W.same sA
      have B2 := W2.wk.b
      have hL2 := sU _ _ hL
      have hy2 := hy.same sA
      have pt := B2.c.part hj
      refine ⟨U, _, rfl, SqT.of upd_same, rfl, _, _, rfl, _, _, rfl, rfl, ?_⟩
      refine ⟨_, rfl, _, rfl, y, _, _, _, rfl, rfl, SqT.of hy2, atI_nat (j := 0) rfl, rfl, _, rfl, ?_⟩
      rw [dI]
      by_cases own : (j : Int) = m.1
      · rw [decide_eq_true own]
        refine iteF ?_
        refine ⟨acc, _, _, rfl, sA, hL2, Nat.le_succ_of_le hal, hacc, fun ⟨i, hi, ne⟩ => hne ⟨i, ?_, ne⟩⟩
        rcases Nat.lt_succ_iff_lt_or_eq.mp hi with h | h
        · exact h
        · rw [h] at ne; exact absurd own.symm ne
      · rw [decide_eq_false own]
        refine iteT ?_
        have own' : m.1 ≠ (j : Int) := fun c => own c.symm
        have lv : leaseOf (j : Int) (g.ow j) (g.he j) m ≤ Lf g.ow m := by
          unfold leaseOf
          rw [if_neg own']
          cases e : lk (g.he j) m with
          | none => exact W.wk.p.lm m hv
          | some x => exact W.wk.p.le j hj m x e
        refine ⟨_, rfl, .inl ⟨rfl, _, SqL.of hL2⟩, _, rfl, g.pa j, _, _, rfl, pt.ob, no_meth (by decide +kernel), _, rfl, g.pa j, y, m, g.pq j, j, g.pn j, g.ow j, g.he j, rfl, pt, hy2, L, _, _, rfl, rfl, hL2, by rw [List.length_map, sizeLine_eq]; omega, ?_⟩
        have sP : Same H (upd (upd H1 U (.tup [.int (j : Nat), .ref (g.pa j)])) L (.lst (acc.map V.int ++ [.int (leaseOf (j : Int) (g.ow j) (g.he j) m)]))) := fun b o e => by rw [upd_ne (ne_of_none e nL)]; exact sA b o e
        have W3 := W.same sP
        have B3 := W3.wk.b
        have hy3 := hy.same sP
        have pt3 := B3.c.part hj
        obtain hhs := W3.wk.h.hsn j hj
        refine ⟨_, rfl, g.pa j, _, _, rfl, pt3.ob, no_meth (by decide +kernel), _, rfl, g.pa j, y, m, g.pq j, j, g.pn j, g.ow j, g.he j, rfl, pt3, hy3, _, rfl, _, rfl, g.w, _, rfl, B3.gH, _, rfl, g.aB, _, rfl, B3.gB hj, pD m, (g.hn j).map pD, dp_nm hy3, .lst (SqL.of (B3.lB hj)) (dp_nms hhs), pD_shaped m, pDs_shaped _, rfl, _, rfl, ?_⟩
        rw [pD_any]
        have eb : (lk (g.he j) m).isSome = decide (m ∈ g.hn j) := by
          rw [Bool.eq_iff_iff, decide_eq_true_iff]
          exact W.wk.p.kn j hj m own'
        rw [eb]
        rw [show decide (V.bl (decide (m ∈ g.hn j)) = V.bl (decide (m ∈ g.hn j))) = true from decide_eq_true rfl]
        refine iteF ?_
        exact ⟨acc ++ [leaseOf (j : Int) (g.ow j) (g.he j) m], _, _, rfl, sP, by rw [upd_same, List.map_append]; rfl, by rw [List.length_append]; exact Nat.succ_le_succ hal, mem_snoc_le hacc lv, fun _ => by rw [List.length_append]; exact Nat.succ_pos _⟩
    · rintro σ H1 ⟨acc, v3, v4, rfl, s, hL, hal, hacc, hne⟩
      rw [show ((List.range g.n).map fun i => V.ref (g.pa i)).length = g.n from by rw [List.length_map, List.length_range]] at hal hne
      have hpos : 0 < acc.length := hne (by
        by_cases c : m.1 = 0
        · exact ⟨1, by omega, by rw [c]; decide⟩
        · exact ⟨0, by omega, c⟩)
      have W1 := W.same s
      have B1 := W1.wk.b
      have hY : H1 g.aY = some (.dT g.ky) := B1.c.cell .way True.intro
      refine ⟨g.aY, .dT g.ky, hY, True.intro, fun od => ?_⟩
      have chF : Ch (fun b => b = g.aY) H1 (upd H1 g.aY (.frz od (.dT g.ky))) := Ch.upd rfl hY (fun xs z => nomatch z)
      have hYf : upd H1 g.aY (.frz od (.dT g.ky)) g.aY = some (.frz od (.dT g.ky)) := upd_same
      have nwY : g.w ≠ g.aY := fun e => nomatch B.c.inj .web .way True.intro True.intro e
      have LY : L ≠ g.aY := fun e => by rw [e, hY] at hL; cases hL
      have hLf := chF.keep _ _ hL LY
      have hwf : upd H1 g.aY (.frz od (.dT g.ky)) g.w = some (.dK g.kw) := chF.keep _ _ (B1.c.cell .web True.intro) nwY
      have hyf := (hy.same s).ch chF
      have hys : ∀ s' t' : Nat, s' < g.n → t' < g.n → s' ≠ t' → upd H1 g.aY (.frz od (.dT g.ky)) (g.ya s' t') = some (.lst (g.ys s' t')) ∧ ∀ v ∈ g.ys s' t', LetOk (upd H1 g.aY (.frz od (.dT g.ky))) g.n g.ow t' v := fun s' t' h1 h2 h3 =>
        ⟨chF.keep _ _ (B1.c.cell (.ya s' t') ⟨h1, h2, h3⟩) (fun e => nomatch B.c.inj (.ya s' t') .way ⟨h1, h2, h3⟩ True.intro e), fun v hv => (W1.wk.h.ls s' t' h1 h2 h3 v hv).ch chF⟩
      generalize hHf : upd H1 g.aY (.frz od (.dT g.ky)) = Hf at chF hYf hLf hwf hyf hys
      have back : ∀ {H2 : Hp}, Same Hf H2 → Same H (upd H2 g.aY (.dT g.ky)) := fun {H2} s2 b o e => by
        by_cases c : b = g.aY
        · rw [c, upd_same]
          have h := B.c.cell .way True.intro
          rw [c] at e
          exact (e.symm.trans h).symm
        · rw [upd_ne c]
          exact s2 _ _ (chF.keep _ _ (s _ _ e) c)
      have gYf : ∀ {H2 : Hp}, Same Hf H2 → DGet H2 g.w (V.str "ways") (some (.ref g.aY)) := fun s2 => by
        have h := DGet.k (k := Sum.inr "ways") (s2 _ _ hwf)
        rw [B.t.kwY] at h
        exact h
      refine ⟨_, rfl, g.w, _, rfl, gYf (fun _ _ h => h), g.aY, od, rfl, .inr ⟨g.ky, hYf, for_it walk_keysT (fun j σ H' => ∃ (l : Addr) (acc : List Int) (v3 v4 v5 : Option V), σ = [some (.ref g.w), some (.ref y), some (.ref l), v3, v4, v5, none] ∧ Same Hf H' ∧ H' l = some (.lst (acc.map V.int)) ∧
          acc.length ≤ 4 + 6000 * j ∧ 0 < acc.length ∧ ∀ z ∈ acc, z ≤ Lf g.ow m)
        ⟨L, acc, v3, v4, none, rfl, (fun _ _ h => h), hLf, by omega, hpos, hacc⟩ (fun j σ H' _ ⟨_, _, _, _, _, _, s2, _⟩ => s2 _ _ hYf) ?_ ?_⟩⟩
      · rintro j x σ H2x H2 hj ⟨l, acc, v3, v4, v5, rfl, s2, hl, hal, hpos, hacc⟩ ⟨rfl, kk, vv, q, hkk, rfl, hq⟩
        obtain ⟨s', t', hs', ht', hst', ek⟩ := B.t.kyk _ (List.mem_of_getElem? hkk)
        have ek : kk = [.inl (s' : Int), .inl (t' : Int)] := ek
        subst ek
        have hq2 : H2 q = some (.tup [.int (s' : Int), .int (t' : Int)]) := hq
        have gq : DGet H2 g.aY (V.ref q) (some (.ref (g.ya s' t'))) := .inr ⟨g.ky, [.inl (s' : Int), .inl (t' : Int)], q, .inr ⟨od, s2 _ _ hYf⟩, rfl, hq, (B.t.ky s' t' hs' ht' hst').symm⟩
        obtain ⟨hy1, hy2⟩ := hys s' t' hs' ht' hst'
        have hlen := W.ln.lys s' t'
        refine ⟨_, rfl, _, rfl, g.w, _, rfl, gYf s2, _, rfl, g.aY, _, rfl, gq, g.ya s' t', rfl, ⟨_, SqL.of (s2 _ _ hy1)⟩, fun D nD => ?_⟩
        have sD := Same.new (o := .lst []) nD
        refine lc_list (K := K) (a := g.ya s' t') (xs := g.ys s' t') (fun i H3 => ∃ ac2 : List Int, H3 D = some (.lst (ac2.map V.int)) ∧ ac2.length ≤ i ∧ (∀ z ∈ ac2, z ≤ Lf g.ow m) ∧ Same H2 H3)
          ⟨[], upd_same, Nat.le_refl _, (fun _ h => nomatch h), sD⟩ (fun i H3 _ ⟨_, _, _, _, s3⟩ => SqL.of (s3 _ _ (s2 _ _ hy1))) ?_ ?_
        · rintro i x H3 hi ⟨ac2, hD, ha2, hb2, s3⟩
          have s23 := s2.trans s3
          have hil := (List.getElem?_eq_some_iff.mp hi).1
          obtain ⟨qb, yb, mb, rfl, hvb, hyb, hb⟩ := (hy2 x (List.mem_of_getElem? hi)).same s23
          have hyf3 := hyf.same s23
          -- kept: the third of it
          have keep : ∀ {z : Int} {c : V}, H3 qb = some (.tup [c, .ref yb, .int z]) → z ≤ Lf g.ow mb → mb = m → ∃ acc', H3 D = some (.lst acc') ∧ acc'.length < sizeLine ∧ ∃ ac2 : List Int, upd H3 D (.lst (acc' ++ [.int z])) D = some (.lst (ac2.map V.int)) ∧ ac2.length ≤ i + 1 ∧ (∀ z ∈ ac2, z ≤ Lf g.ow m) ∧ Same H2 (upd H3 D (.lst (acc' ++ [.int z]))) := by
            intro z c _ hz em
            refine ⟨_, hD, by rw [List.length_map, sizeLine_eq]; omega, ac2 ++ [z], by rw [upd_same, List.map_append]; rfl, by rw [List.length_append]; exact Nat.succ_le_succ ha2, mem_snoc_le hb2 (by rw [← em]; exact hz), fun b o e => ?_⟩
            rw [upd_ne (ne_of_none e nD)]
            exact s3 _ _ e
          have skip : ∃ ac2 : List Int, H3 D = some (.lst (ac2.map V.int)) ∧ ac2.length ≤ i + 1 ∧ (∀ z ∈ ac2, z ≤ Lf g.ow m) ∧ Same H2 H3 := ⟨ac2, hD, Nat.le_succ_of_le ha2, hb2, s3⟩
          rcases hb with ⟨z, hb | hb, hz⟩ | ⟨hb, _⟩
          · refine ⟨rfl, _, rfl, qb, _, _, _, rfl, rfl, SqT.of hb, atI_nat (j := 1) rfl, _, rfl, pD mb, pD m, dp_nm hyb, dp_nm hyf3, pD_shaped mb, pD_shaped m, _, rfl, ?_⟩
            rw [pD_eqv]
            refine ite2 (fun em => ?_) (fun em => ?_)
            · refine ⟨_, rfl, qb, _, _, _, rfl, rfl, SqT.of hb, atI_nat (j := 0) rfl, rfl, _, rfl, ?_⟩
              rw [ls_hr]
              refine iteT ?_
              exact ⟨_, rfl, qb, _, _, _, rfl, rfl, SqT.of hb, atI_nat (j := 2) rfl, keep hb hz (of_decide_eq_true em)⟩
            · exact skip
          · refine ⟨rfl, _, rfl, qb, _, _, _, rfl, rfl, SqT.of hb, atI_nat (j := 1) rfl, _, rfl, pD mb, pD m, dp_nm hyb, dp_nm hyf3, pD_shaped mb, pD_shaped m, _, rfl, ?_⟩
            rw [pD_eqv]
            refine ite2 (fun em => ?_) (fun em => ?_)
            · refine ⟨_, rfl, qb, _, _, _, rfl, rfl, SqT.of hb, atI_nat (j := 0) rfl, rfl, _, rfl, ?_⟩
              rw [ls_lr]
              refine iteT ?_
              exact ⟨_, rfl, qb, _, _, _, rfl, rfl, SqT.of hb, atI_nat (j := 2) rfl, keep hb hz (of_decide_eq_true em)⟩
            · exact skip
          · refine ⟨rfl, _, rfl, qb, _, _, _, rfl, rfl, SqT.of hb, atI_nat (j := 1) rfl, _, rfl, pD mb, pD m, dp_nm hyb, dp_nm hyf3, pD_shaped mb, pD_shaped m, _, rfl, ?_⟩
            rw [pD_eqv]
            refine ite2 (fun em => ?_) (fun em => ?_)
            · refine ⟨_, rfl, qb, _, _, _, rfl, rfl, SqT.of hb, atI_nat (j := 0) rfl, rfl, _, rfl, ?_⟩
              rw [show decide (V.str "renew" = V.str "renew") = true from decide_eq_true rfl]
              exact skip
            · exact skip
        · rintro H3 ⟨ac2, hD, ha2, hb2, s3⟩
          refine ⟨l, D, acc.map V.int, ac2.map V.int, rfl, rfl, s3 _ _ hl, hD, ?_, fun l' nl' => ?_⟩
          · have hjl := (List.getElem?_eq_some_iff.mp hkk).1
            have := B.t.ly
            rw [List.length_map, List.length_map, sizeLine_eq]
            omega
          · have s4 := Same.new (o := .lst (acc.map V.int ++ ac2.map V.int)) nl'
            refine ⟨l', acc ++ ac2, v3, v4, _, rfl, (s2.trans s3).trans s4, by rw [upd_same, List.map_append], by rw [List.length_append]; omega, by rw [List.length_append]; omega, fun z hz => ?_⟩
            rcases List.mem_append.mp hz with hz | hz
            · exact hacc z hz
            · exact hb2 z hz
      · rintro σ H2 ⟨l, acc, v3, v4, v5, rfl, s2, hl, hal, hpos, hacc⟩
        refine ⟨s2 _ _ hYf, ?_⟩
        have lY : l ≠ g.aY := fun e => by rw [e, s2 _ _ hYf] at hl; cases hl
        exact ⟨_, rfl, post _ l acc (back s2) (by rw [upd_ne lY]; exact hl) hpos hacc⟩
theorem bLs (T : TX K mg) : Binds K T.dLs ["_law_web_here", "_law_name"] [] := T.FLs.binds (ps := ["_law_web_here", "_law_name"]) fun _ _ _ _ _ _ us hl => match us, hl with | [_, _], _ => rfl
end
end K48

/-! the law -/
namespace K48
open PySem PySem.Spec PyProof.Rows L2
/-- parts alone -/
def bW (n : Nat) (aP : Addr) (pa : Nat → Addr) (pq : Nat → PA) : Wd :=
  { n := n, now := 0, w := 0, aP := aP, aY := 0, aB := 0, pa := pa, pq := pq, ba := fun _ => 0, ya := fun _ _ => 0, pn := fun _ => 0, ow := fun _ => [], he := fun _ => [], hs := fun _ => [], hn := fun _ => [], ys := fun _ _ => [], kw := [], kh := [], ky := [],
    pl := (List.range n).map fun k => V.ref (pa k) }
theorem pd_split {i : Nat} {l : Loc} (h : PD (i + 1) l) : PD i l ∨ l = .pa i ∨ l = .po i ∨ l = .pe i := by
  cases l with
  | pa k =>
    by_cases e : k = i
    · exact .inr (.inl (by rw [e]))
    · exact .inl (by have h : k < i + 1 := h; show k < i; omega)
  | po k =>
    by_cases e : k = i
    · exact .inr (.inr (.inl (by rw [e])))
    · exact .inl (by have h : k < i + 1 := h; show k < i; omega)
  | pe k =>
    by_cases e : k = i
    · exact .inr (.inr (.inr (by rw [e])))
    · exact .inl (by have h : k < i + 1 := h; show k < i; omega)
  | _ => exact h.elim
theorem bW_old {n i : Nat} {aP x : Addr} {pa : Nat → Addr} {pq : Nat → PA} {q : PA} {l : Loc} (h : PD i l) : (bW n aP (fup pa i x) (fup pq i q)).adr l = (bW n aP pa pq).adr l ∧ ∀ C, (bW n aP (fup pa i x) (fup pq i q)).cont C l = (bW n aP pa pq).cont C l := by
  cases l with
  | pa k =>
    have e : k ≠ i := Nat.ne_of_lt h
    exact ⟨fup_ne e, fun C => by show HO.ins C (fup pq i q k).dx (pfl k 0 (fup pq i q k).o (fup pq i q k).e) = _; rw [fup_ne e]; rfl⟩
  | po k =>
    have e : k ≠ i := Nat.ne_of_lt h
    exact ⟨by show (fup pq i q k).o = _; rw [fup_ne e]; rfl, fun C => rfl⟩
  | pe k =>
    have e : k ≠ i := Nat.ne_of_lt h
    exact ⟨by show (fup pq i q k).e = _; rw [fup_ne e]; rfl, fun C => rfl⟩
  | _ => exact h.elim
theorem CellsD.part {C : Addr} {H H2 : Hp} {n i : Nat} {aP x : Addr} {pa : Nat → Addr} {pq : Nat → PA} {q : PA} (c : CellsD C H (bW n aP pa pq) (PD i)) (s : Same H H2) (p : PartAt C H2 x q i 0 [] []) (nx : H x = none) (no : H q.o = none) (ne : H q.e = none) :
    CellsD C H2 (bW n aP (fup pa i x) (fup pq i q)) (PD (i + 1)) := by
  have a0 : (bW n aP (fup pa i x) (fup pq i q)).adr (.pa i) = x := fup_same
  have a1 : (bW n aP (fup pa i x) (fup pq i q)).adr (.po i) = q.o := by show (fup pq i q i).o = _; rw [fup_same]
  have a2 : (bW n aP (fup pa i x) (fup pq i q)).adr (.pe i) = q.e := by show (fup pq i q i).e = _; rw [fup_same]
  have old : ∀ l, PD i l → ∃ u, H ((bW n aP (fup pa i x) (fup pq i q)).adr l) = some u := fun l h => ⟨_, by rw [(bW_old h).1]; exact c.cell l h⟩
  have away : ∀ l b, PD i l → H b = none → (bW n aP (fup pa i x) (fup pq i q)).adr l ≠ b := fun l b h hb e => by
    obtain ⟨u, hu⟩ := old l h
    rw [e, hb] at hu
    cases hu
  refine ⟨fun l d => ?_, fun l l' d d' e => ?_⟩
  · rcases pd_split d with h | rfl | rfl | rfl
    · rw [(bW_old h).1, (bW_old h).2]
      exact s _ _ (c.cell l h)
    · rw [a0]
      refine p.ob.trans (congrArg some ?_)
      show _ = HO.ins C (fup pq i q i).dx (pfl i 0 (fup pq i q i).o (fup pq i q i).e)
      rw [fup_same]
    · rw [a1]; exact p.oo
    · rw [a2]; exact p.ee
  · rcases pd_split d with h | rfl | rfl | rfl <;> rcases pd_split d' with h' | rfl | rfl | rfl
    · rw [(bW_old h).1, (bW_old h').1] at e
      exact c.inj l l' h h' e
    · rw [a0] at e; exact absurd e (away l _ h nx)
    · rw [a1] at e; exact absurd e (away l _ h no)
    · rw [a2] at e; exact absurd e (away l _ h ne)
    · rw [a0] at e; exact absurd e.symm (away l' _ h' nx)
    · rfl
    · rw [a0, a1] at e; exact absurd e p.ao
    · rw [a0, a2] at e; exact absurd e p.ae
    · rw [a1] at e; exact absurd e.symm (away l' _ h' no)
    · rw [a1, a0] at e; exact absurd e.symm p.ao
    · rfl
    · rw [a1, a2] at e; exact absurd e p.ne
    · rw [a2] at e; exact absurd e.symm (away l' _ h' ne)
    · rw [a2, a0] at e; exact absurd e.symm p.ae
    · rw [a2, a1] at e; exact absurd e.symm p.ne
    · rfl
theorem WIn.off {C : Addr} {H : Hp} {g : Wd} {k : Nat} (W : WIn C H g k) {D : Addr} {xs : List V} (hD : H D = some (.lst xs)) (nD : ¬ g.own D) (o : HO) : WIn C (upd H D o) g k := by
  have ch : Ch (fun b => b = D) H (upd H D o) := Ch.upd rfl hD (fun xs z => nomatch z)
  exact ⟨⟨⟨⟨fun l d => by rw [upd_ne fun e => nD ⟨l, d, e.symm⟩]; exact W.wk.b.c.cell l d, W.wk.b.c.inj⟩, W.wk.b.t⟩, W.wk.p, W.wk.h.ch ch⟩, W.lk, W.ln⟩
theorem last_at {ds : List Int} {n : Nat} (h : ds.length = n + 1) : ∃ z : Int, (ds.map V.int)[(ds.map V.int).length - 1]? = some (.int z) ∧ (ds.map V.int).dropLast = ds.dropLast.map V.int ∧ ds.dropLast.length = n := by
  have hl : n < ds.length := by omega
  refine ⟨ds[n], ?_, (List.map_dropLast).symm, by rw [List.length_dropLast, h]; rfl⟩
  rw [List.length_map, h, List.getElem?_map]
  rw [show n + 1 - 1 = n from rfl, List.getElem?_eq_getElem hl]
  rfl
section
variable {P : Program} {w : World} {K : PySem.W.Frag} {mg : Str → Option Value} {base : Heap}
theorem scLaw : FnScope ["_law_script", "_law_draws_here", "_law_web_here", "_law_turn", "_law_name", "_law_leases_here", "_law_home", "_law_house"] ["_law_script"] (defScope sLaw) := ⟨rfl, rfl, rfl, by decide +kernel, by decide +kernel, by decide +kernel, by decide +kernel⟩
def spLaw (K : PySem.W.Frag) : Sp := fun vs H Q _ => ∃ (a : Addr) (ns : List Int), vs = [.ref a] ∧ SqL K H a (ns.map V.int) ∧ ∀ H', Q (.bl true) H'
theorem ok_law (T : TX K mg) : FnOk P w K mg base CX0 8 T.aLaw T.dLaw ["_law_script"] (spLaw K) := by
  have GD : FnOk P w K mg base CX0 2 T.aDraws T.dDraws ["_law_script", "_law_at", "_law_many"] (spDraws K) := ok_draws T
  have GI : FnOk P w K mg base CX0 2 T.aInit T.dInit ["self", "house"] (spInit T.C) := ok_init T
  have GW : FnOk P w K mg base CX0 1 T.aWeb T.dWeb ["_law_parts"] (spWeb T.C) := ok_web T
  have GS : FnOk P w K mg base CX0 7 T.aStep T.dStep ["_law_web_here", "_law_draw"] (spStep T.C) := ok_step T
  have GN : FnOk P w K mg base CX0 1 T.aNames T.dNames ["_law_web_here"] (spNames T.C) := ok_names T
  have GL : FnOk P w K mg base CX0 3 T.aLs T.dLs ["_law_web_here", "_law_name"] (spLs T.C) := ok_ls T
  have GE : FnOk P w K mg base CX0 2 T.aLease T.dLease ["self", "name"] (spLease T.C) := ok_lease T
  have GH : FnOk P w K mg base CX0 3 T.aHeld T.dHeld ["self", "name"] (spHeld T.C) := ok_held T
  refine T.FLaw.ok scLaw (fun vs H Q E h => ?_) (fun cdv A outer s H vs Q E hr h => ?_)
  · obtain ⟨a, ns, rfl, _⟩ := h
    rfl
  · obtain ⟨a, ns, rfl, hS, k⟩ := h
    have hu := hu_of hr
    have hr1 : Room 1 _ := hr.mono (by decide)
    have hr2 : Room 2 _ := hr.mono (by decide)
    have hr3 : Room 3 _ := hr.mono (by decide)
    refine ⟨_, pss_cons (ps_set (i := 1) scLaw.nd rfl (Or.inl rfl) (pe_call GD hr2 (by rfl) T.gDraws T.FDraws.kp (bDraws T) .nil pass0 (pa_cons (pv 0) (pa_cons pe_int (pa_cons pe_int pa_nil)))))
      (pss_cons (ps_set (i := 2) scLaw.nd rfl (Or.inl rfl) (pe_call GW hr1 (by rfl) T.gWeb T.FWeb.kp (bWeb T) .nil pass0 (pa_cons
        (pe_lc (own := [("_law_house", 7)]) (g := gName 7) (tt := tYes) rfl scLaw.nd (pi_range1 (by rfl) T.zRange (pa_cons (pe_op op_add pe_int (pe_op op_mod (pe_bm0 PySem.F.plainAttrs_list PySem.F.slot_list_pop PySem.F.type_list_pop mt_pop (pv 1)) pe_int)) pa_nil))
          (blkOk_by (own := [("_law_house", 7)]) (N := ["_law_script", "_law_draws_here", "_law_web_here", "_law_turn", "_law_name", "_law_leases_here", "_law_home", "_law_house"]) (sc := defScope sLaw) (by decide +kernel)) (fun _ _ _ _ _ => pg_name (i := 7) scLaw.nd rfl (Or.inl rfl))
          (fun _ _ _ _ _ => pts_nil) (fun _ _ _ _ _ => pe_make T.mkC GI hr3 (by rfl) T.gC (bInit T) .nil pass0 (pa_cons (pv 7) pa_nil))) pa_nil)))
      (pss_cons (ps_for PassesOwn.never rfl (pi_range1 (by rfl) T.zRange (pa_cons (pe_op op_mod (pe_bm0 PySem.F.plainAttrs_list PySem.F.slot_list_pop PySem.F.type_list_pop mt_pop (pv 1)) pe_int) pa_nil)) (pg_name (i := 3) scLaw.nd rfl (Or.inl rfl))
        (pss_cons (ps_expr (pe_call GS hr (by rfl) T.gStep T.FStep.kp (bStep T) .nil pass0 (pa_cons (pv 2) (pa_cons (pe_bm0 PySem.F.plainAttrs_list PySem.F.slot_list_pop PySem.F.type_list_pop mt_pop (pv 1)) pa_nil))))
        (pss_one (ps_for PassesOwn.never rfl (pi_list (pe_call GN hr1 (by rfl) T.gNames T.FNames.kp (bNames T) .nil pass0 (pa_cons (pv 2) pa_nil))) (pg_name (i := 4) scLaw.nd rfl (Or.inl rfl))
          (pss_cons (ps_set (i := 5) scLaw.nd rfl (Or.inl rfl) (pe_call GL hr3 (by rfl) T.gLs T.FLs.kp (bLs T) .nil pass0 (pa_cons (pv 2) (pa_cons (pv 4) pa_nil))))
          (pss_cons (ps_set (i := 6) scLaw.nd rfl (Or.inl rfl) (pe_ix ix_list (pe_dget hu (pv 2) pe_str (fun _ _ => rfl)) (pe_ix ix_tup (pv 4) pe_int (fun _ _ => rfl)) (fun _ _ => rfl)))
          (pss_cons (ps_if (PW.pt (pw_or (pt_cmp (pc_isN (pv 5))) (pw_or1 (pt_cmpR op_gt (pe_callB (cr_max rfl) (by rfl) T.zMax (by decide +kernel) (pa_cons (pv 5) pa_nil)) (pe_meth (pv 6) T.cl T.mLease GE hr2 (bLease T) .nil pass0 (pa_cons (pv 4) pa_nil)) (by rfl)))))
            (pss_one (ps_ret pe_bl)) pss_nil)
          (pss_one (ps_if (PW.pt (pw_and (pt_cmpR op_ge (pe_callB (cr_max rfl) (by rfl) T.zMax (by decide +kernel) (pa_cons (pv 5) pa_nil)) (pe_dget hu (pv 2) pe_str (fun _ _ => rfl)) (by rfl))
              (pw_and1 (pt_not (pt_val (pe_meth (pv 6) T.cl T.mHeld GH hr3 (bHeld T) .nil pass0 (pa_cons (pv 4) pa_nil)))))))
            (pss_one (ps_ret pe_bl)) pss_nil)))))))))
      (pss_one (ps_ret pe_bl)))), ?_⟩
    refine ⟨_, rfl, a, ns, rfl, hS, fun H0 D ds s0 nD0 hD hlen => ?_⟩
    -- how many houses
    obtain ⟨z1, at1, dr1, hl1⟩ := last_at (n := 59) hlen
    have m1 : 0 ≤ z1 % 3 := Int.emod_nonneg _ (by decide)
    have m2 : z1 % 3 < 3 := Int.emod_lt_of_pos _ (by decide)
    obtain ⟨n, en⟩ : ∃ n : Nat, 2 + z1 % 3 = (n : Int) := ⟨(2 + z1 % 3).toNat, by omega⟩
    have hn2 : 2 ≤ n := by omega
    have hn4 : n ≤ 4 := by omega
    refine ⟨_, rfl, .inl ⟨rfl, _, SqL.of hD⟩, D, _, _, rfl, rfl, hD, at1, ?_⟩
    rw [dr1]
    have hD1 : upd H0 D (.lst (ds.dropLast.map V.int)) D = some (.lst (ds.dropLast.map V.int)) := upd_same
    generalize upd H0 D (.lst (ds.dropLast.map V.int)) = H1 at hD1
    refine ⟨_, _, rfl, rfl, by show (0 : Int) < 3; decide, _, _, rfl, rfl, 2 + z1 % 3, rfl, by omega, by omega, fun M nM => ?_⟩
    rw [en]
    have DM : D ≠ M := ne_of_none hD1 nM
    refine lc_range (lo := 0) (n := (n : Int).toNat) (fun i H' => ∃ (pa : Nat → Addr) (pq : Nat → PA), H' M = some (.lst ((List.range i).map fun l => V.ref (pa l))) ∧ CellsD T.C H' (bW n M pa pq) (PD i) ∧ Same H1 H' ∧ ∀ l, PD i l → H1 ((bW n M pa pq).adr l) = none)
      ⟨fun _ => 0, fun _ => ⟨0, 0, 0⟩, upd_same, ⟨fun l d => (by cases l <;> first | exact absurd d (Nat.not_lt_zero _) | exact d.elim), fun l l' d => (by cases l <;> first | exact absurd d (Nat.not_lt_zero _) | exact d.elim)⟩, Same.new nM, fun l d => (by cases l <;> first | exact absurd d (Nat.not_lt_zero _) | exact d.elim)⟩ ?_ ?_
    · rintro i H2 hi ⟨pa, pq, hM, c, s, nn⟩
      have hi' : i < n := by omega
      rw [Int.zero_add]
      refine ⟨rfl, _, rfl, ?_⟩
      intro x dx nx ndx nex
      refine ⟨x, dx, (i : Int), rfl, upd_same, fun H3 q p1 c1 no ne => ⟨rfl, ?_⟩⟩
      have s1 : Same H2 H3 := fun b u e => c1.keep b u (by rw [upd_ne (ne_of_none e nx), upd_ne (ne_of_none e ndx)]; exact e) (ne_of_none e nx)
      have back : ∀ {l : Addr}, upd (upd H2 dx (.own x)) x (.ins T.C dx []) l = none → H2 l = none := fun {l} e => by
        have n1 : l ≠ x := fun c => by rw [c, upd_same] at e; cases e
        rw [upd_ne n1] at e
        have n2 : l ≠ dx := fun c => by rw [c, upd_same] at e; cases e
        rw [upd_ne n2] at e
        exact e
      have mo := back no
      have me := back ne
      have hM3 := s1 _ _ hM
      refine ⟨_, hM3, by rw [List.length_map, List.length_range, sizeLine_eq]; omega, fup pa i x, fup pq i q, ?_, ?_, fun b u e => ?_, fun l d => ?_⟩
      · rw [upd_same, List.range_succ, List.map_append]
        refine congrArg (fun z => some (HO.lst z)) (congr (congrArg _ (List.map_congr_left fun l hl => ?_)) ?_)
        · rw [fup_ne (Nat.ne_of_lt (List.mem_range.mp hl))]
        · show [V.ref x] = [V.ref (fup pa i x i)]
          rw [fup_same]
      · have c3 := c.part s1 p1 nx mo me
        refine ⟨fun l d => ?_, c3.inj⟩
        have h := c3.cell l d
        rw [upd_ne fun e => by rw [e, hM3] at h; cases l <;> first | exact d.elim | cases h]
        exact h
      · rw [upd_ne fun c => by rw [c, nM] at e; cases e]
        exact s1 _ _ (s _ _ e)
      · rcases pd_split d with h | rfl | rfl | rfl
        · rw [(bW_old h).1]; exact nn l h
        · show H1 (fup pa i x i) = none
          rw [fup_same]; exact s.free nx
        · show H1 (fup pq i q i).o = none
          rw [fup_same]; exact s.free mo
        · show H1 (fup pq i q i).e = none
          rw [fup_same]; exact s.free me
    · rintro H2 ⟨pa, pq, hM, c, s, nn⟩
      rw [show (n : Int).toNat = n from Int.toNat_natCast _] at hM c nn
      have cM : CellsD T.C H2 (bW n M pa pq) (fun l => l = .prt ∨ PD n l) := by
        have off : ∀ l, PD n l → (bW n M pa pq).adr l ≠ M := fun l d e => by
          have h := c.cell l d
          rw [e, hM] at h
          cases l <;> first | exact d.elim | cases h
        refine ⟨fun l d => ?_, fun l l' d d' e => ?_⟩
        · rcases d with rfl | d
          · exact hM
          · exact c.cell l d
        · rcases d with rfl | d <;> rcases d' with rfl | d'
          · rfl
          · exact absurd e.symm (off l' d')
          · exact absurd e (off l d)
          · exact c.inj l l' d d' e
      refine ⟨bW n M pa pq, rfl, hn2, hn4, rfl, rfl, rfl, rfl, cM, fun H3 g s3 W gn own => ?_⟩
      have hD3 := s3 _ _ (s _ _ hD1)
      have nD3 : ¬ g.own D := fun ⟨l, d, e⟩ => by
        rcases own l d with ⟨h, e2⟩ | h
        · rw [e2] at e
          rcases h with rfl | h
          · exact DM e
          · have := nn l h
            rw [← e, hD1] at this
            cases this
        · rw [← e, s _ _ hD1] at h
          cases h
      obtain ⟨z2, at2, dr2, hl2⟩ := last_at (n := 58) hl1
      have t1 : 0 ≤ z2 % 41 := Int.emod_nonneg _ (by decide)
      have t2 : z2 % 41 < 41 := Int.emod_lt_of_pos _ (by decide)
      refine ⟨_, rfl, .inl ⟨rfl, _, SqL.of hD3⟩, D, _, _, rfl, rfl, hD3, at2, ?_⟩
      rw [dr2]
      have W4 := W.off hD3 nD3 (.lst (ds.dropLast.dropLast.map V.int))
      have hD4 : upd H3 D (.lst (ds.dropLast.dropLast.map V.int)) D = some (.lst (ds.dropLast.dropLast.map V.int)) := upd_same
      generalize upd H3 D (.lst (ds.dropLast.dropLast.map V.int)) = H4 at hD4 W4
      obtain ⟨t, et⟩ : ∃ t : Nat, z2 % 41 = (t : Int) := ⟨(z2 % 41).toNat, by omega⟩
      refine ⟨_, _, rfl, rfl, by show (0 : Int) < 41; decide, z2 % 41, rfl, by omega, by omega, ?_⟩
      rw [et]
      refine for_range (lo := 0) (n := (t : Int).toNat) (fun j σ H' => ∃ (e : Wd) (es : List Int) (v3 v4 v5 v6 : Option V), σ = [some (.ref a), some (.ref D), some (.ref g.w), v3, v4, v5, v6, none] ∧ e.w = g.w ∧ WIn T.C H' e j ∧ H' D = some (.lst (es.map V.int)) ∧ es.length + j = 58 ∧ ¬ e.own D)
        ⟨g, ds.dropLast.dropLast, none, none, none, none, rfl, rfl, W4, hD4, hl2, nD3⟩ ?_ ?_
      · rintro j σ H5 hj ⟨e, es, v3, v4, v5, v6, rfl, ew, W5, hD5, hl5, nD5⟩
        have hj' : j < t := by omega
        obtain ⟨z3, at3, dr3, hl3⟩ := last_at (ds := es) (n := 57 - j) (by omega)
        refine ⟨_, rfl, _, rfl, .inl ⟨rfl, _, SqL.of hD5⟩, D, _, _, rfl, rfl, hD5, at3, ?_⟩
        rw [dr3]
        have W6 := W5.off hD5 nD5 (.lst (es.dropLast.map V.int))
        have hD6 : upd H5 D (.lst (es.dropLast.map V.int)) D = some (.lst (es.dropLast.map V.int)) := upd_same
        generalize upd H5 D (.lst (es.dropLast.map V.int)) = H6 at hD6 W6
        refine ⟨e, j, z3, by rw [ew]; rfl, W6, by omega, fun H7 f W7 cw => ?_⟩
        obtain ⟨hD7, nD7⟩ := cw.stay hD6 nD5
        have fw : f.w = g.w := cw.w.trans ew
        refine ⟨_, rfl, f, by rw [fw]; rfl, W7.wk.b, W7.lk, fun H8 l xs nms s8 nl hl hp hv => ?_⟩
        refine ⟨l, rfl, ⟨_, SqL.of hl⟩, for_list (K := K) (a := l) (xs := xs) (fun i σ H' => ∃ v3 v4 v5 v6 : Option V, σ = [some (.ref a), some (.ref D), some (.ref g.w), v3, v4, v5, v6, none] ∧ Same H8 H')
          ⟨_, v4, v5, v6, rfl, fun _ _ h => h⟩ (fun i σ H' _ ⟨_, _, _, _, _, s9⟩ => SqL.of (s9 _ _ hl)) ?_ ?_⟩
        · rintro i x σ H9 hx ⟨v3, v4, v5, v6, rfl, s9⟩
          obtain ⟨m, hm, y, rfl, hy⟩ := pair_getL hp hx
          have hvm := hv m (List.mem_of_getElem? hm)
          have W9 := W7.same (s8.trans s9)
          have hy9 := hy.same s9
          refine ⟨_, rfl, _, rfl, f, j + 1, y, m, by rw [fw]; rfl, W9, by omega, hy9, hvm, fun H10 q zs s10 hq hpos hle => ?_⟩
          have W10 := W9.same s10
          have B10 := W10.wk.b
          have hy10 := hy9.same s10
          obtain ⟨h, hh, mh⟩ := hvm.home
          have gP := B10.gP
          have gN := B10.gN
          rw [fw] at gP gN
          have pt := B10.c.part hh
          have lf : leaseOf (h : Int) (f.ow h) (f.he h) m = Lf f.ow m := by
            unfold leaseOf Lf
            rw [if_pos mh, mh]
            rfl
          refine ⟨_, rfl, g.w, _, rfl, gP, _, rfl, y, _, _, _, rfl, rfl, SqT.of hy10, atI_nat (j := 0) rfl, f.aP, _, _, _, rfl, rfl, SqL.of (B10.lP W10.lk), at_of mh (range_at hh), ?_⟩
          refine ⟨_, rfl, _, rfl, ?_⟩
          refine iteF ?_
          refine ⟨_, rfl, q, zs, rfl, SqL.of hq, hpos, fun b hb hbm => ?_⟩
          refine ⟨_, rfl, f.pa h, _, _, rfl, pt.ob, no_meth (by decide +kernel), _, rfl, f.pa h, y, m, f.pq h, h, f.pn h, f.ow h, f.he h, rfl, pt, hy10, _, _, rfl, rfl, _, rfl, ?_⟩
          have hbl := hle b hb
          rw [lf, decide_eq_false (Int.not_lt.mpr hbl)]
          refine iteF ?_
          refine ⟨_, rfl, q, zs, rfl, SqL.of hq, hpos, fun b2 hb2 hbm2 => ?_⟩
          refine ⟨_, rfl, g.w, _, rfl, gN, _, _, rfl, rfl, _, rfl, ?_⟩
          have hbl2 := hle b2 hb2
          refine ite2 (fun ge => ?_) (fun _ => ?_)
          · have ge := of_decide_eq_true ge
            refine ⟨_, rfl, f.pa h, _, _, rfl, pt.ob, no_meth (by decide +kernel), _, rfl, f.pa h, y, m, f.pq h, h, f.pn h, f.ow h, f.he h, rfl, pt, hy10, _, rfl, ?_⟩
            rw [lf, W7.lk.pn h hh, decide_eq_true (Int.le_trans ge hbl2)]
            refine iteF ?_
            exact ⟨_, _, _, _, rfl, s9.trans s10⟩
          · exact ⟨_, _, _, _, rfl, s9.trans s10⟩
        · rintro σ H9 ⟨v3, v4, v5, v6, rfl, s9⟩
          exact ⟨f, es.dropLast, v3, v4, v5, v6, rfl, fw, W7.same (s8.trans s9), s9 _ _ (s8 _ _ hD7), by omega, nD7⟩
      · rintro σ H5 ⟨e, es, v3, v4, v5, v6, rfl, ew, W5, hD5, hl5, nD5⟩
        exact k _
theorem bLaw (T : TX K mg) : Binds K T.dLaw ["_law_script"] [] := T.FLaw.binds (ps := ["_law_script"]) fun _ _ _ _ _ _ us hl => match us, hl with | [_], _ => rfl
end
end K48

/-! what the top has written, gathered; the law's own head -/
namespace K48
open PySem PySem.Spec PyProof.Rows L2
theorem all_mk {l : PySem.W.OpenLaw} {w : World} {K : PySem.W.Frag} {h : Heap} {mg : Str → Option Value} {fa C Pa : Addr} (X : K.In h) (G : h.Ns mainGlobals mg) (hfa : mg "law" = some (.ref fa))
    {f0 f1 f2 f3 f4 f5 f6 f7 f8 f9 f10 f11 f12 f13 f14 f15 f16 f17 f18 f19 f20 f21 f22 f23 f24 f25 f26 : Addr} {od0 od1 od2 od3 od4 od5 od6 od7 od8 od9 od10 od11 od12 od13 od14 od15 od16 od17 od18 od19 od20 od21 od22 od23 od24 od25 od26 an0 an1 an2 an3 an4 an5 an6 an7 an8 an9 an10 an11 an12 an13 an14 an15 an16 an17 an18 an19 an20 an21 an22 an23 an24 an25 an26 : Option Addr}
    {sl0 sl1 sl2 sl3 sl4 sl5 sl6 sl7 sl8 sl9 sl10 sl11 sl12 sl13 sl14 sl15 sl16 sl17 sl18 sl19 sl20 sl21 sl22 sl23 sl24 sl25 sl26 : Array (Option Value)}
    {oc0 oc1 oc2 oc3 oc4 oc5 oc6 oc7 oc8 oc9 oc10 oc11 oc12 oc13 oc14 oc15 oc16 oc17 oc18 oc19 oc20 oc21 oc22 oc23 oc24 oc25 oc26 : Value}
    {kV0 kV1 kV2 kV3 kV4 kV5 kV6 kV7 kV8 kV9 kV10 kV11 kV12 kV13 kV14 kV15 kV16 kV17 kV18 kV19 kV20 kV21 kV22 kV23 kV24 kV25 kV26 : Value}
    {dc0 dc1 dc2 dc3 dc4 dc5 dc6 dc7 dc8 dc9 dc10 dc11 dc12 dc13 dc14 dc15 dc16 dc17 dc18 dc19 dc20 dc21 dc22 dc23 dc24 dc25 dc26 : Value}
    {pm0 pm1 pm2 pm3 pm4 pm5 pm6 pm7 pm8 pm9 pm10 pm11 pm12 pm13 pm14 pm15 pm16 pm17 pm18 pm19 pm20 pm21 pm22 pm23 pm24 pm25 pm26 : Value}
    {cd0 cd1 cd2 cd3 cd4 cd5 cd6 cd7 cd8 cd9 cd10 cd11 cd12 cd13 cd14 cd15 cd16 cd17 cd18 cd19 cd20 cd21 cd22 cd23 cd24 cd25 cd26 : Value}
    {ct0 ct1 ct2 ct3 ct4 ct5 ct6 ct7 ct8 ct9 ct10 ct11 ct12 ct13 ct14 ct15 ct16 ct17 ct18 ct19 ct20 ct21 ct22 ct23 ct24 ct25 ct26 : Value}
    {tl : Nat}
    (aC : PySem.W.nsIn K mainGlobals "LeasePart" = some (some (.ref C)))
    (aP : PySem.W.nsIn K mainGlobals "Part" = some (some (.ref Pa)))
    (a0 : PySem.W.findCls K (.ref Pa) (.type "type") "__init__" = some (.val (.ref f0)))
    (l0 : K.lookup f0 = some ⟨oc0, od0, .func (PySem.W.fnOf "__init__" "Part.__init__" (defArgs sPInit) (defBody sPInit) (defScope sPInit) .none kV0 dc0 pm0 an0 cd0 ct0), sl0⟩)
    (c0 : PySem.W.codeIn K cd0 "Part.__init__" = true)
    (k0 : PySem.W.keepIn K (.ref f0) = true)
    (a1 : PySem.W.findIn K (.ref C) "__init__" = some (some (.ref f1)))
    (i1 : PySem.W.isFn K (.ref f1) = true)
    (l1 : K.lookup f1 = some ⟨oc1, od1, .func (PySem.W.fnOf "__init__" "LeasePart.__init__" (defArgs sInit) (defBody sInit) (defScope sInit) .none kV1 dc1 pm1 an1 cd1 ct1), sl1⟩)
    (c1 : PySem.W.codeIn K cd1 "LeasePart.__init__" = true)
    (k1 : PySem.W.keepIn K (.ref f1) = true)
    (a2 : PySem.W.findIn K (.ref C) "is_own" = some (some (.ref f2)))
    (i2 : PySem.W.isFn K (.ref f2) = true)
    (l2 : K.lookup f2 = some ⟨oc2, od2, .func (PySem.W.fnOf "is_own" "Part.is_own" (defArgs sIsOwn) (defBody sIsOwn) (defScope sIsOwn) .none kV2 dc2 pm2 an2 cd2 ct2), sl2⟩)
    (c2 : PySem.W.codeIn K cd2 "Part.is_own" = true)
    (k2 : PySem.W.keepIn K (.ref f2) = true)
    (a3 : PySem.W.findIn K (.ref C) "copied" = some (some (.ref f3)))
    (i3 : PySem.W.isFn K (.ref f3) = true)
    (l3 : K.lookup f3 = some ⟨oc3, od3, .func (PySem.W.fnOf "copied" "LeasePart.copied" (defArgs sCopied) (defBody sCopied) (defScope sCopied) .none kV3 dc3 pm3 an3 cd3 ct3), sl3⟩)
    (c3 : PySem.W.codeIn K cd3 "LeasePart.copied" = true)
    (k3 : PySem.W.keepIn K (.ref f3) = true)
    (a4 : PySem.W.findIn K (.ref C) "lease" = some (some (.ref f4)))
    (i4 : PySem.W.isFn K (.ref f4) = true)
    (l4 : K.lookup f4 = some ⟨oc4, od4, .func (PySem.W.fnOf "lease" "LeasePart.lease" (defArgs sLease) (defBody sLease) (defScope sLease) .none kV4 dc4 pm4 an4 cd4 ct4), sl4⟩)
    (c4 : PySem.W.codeIn K cd4 "LeasePart.lease" = true)
    (k4 : PySem.W.keepIn K (.ref f4) = true)
    (a5 : PySem.W.findIn K (.ref C) "lend" = some (some (.ref f5)))
    (i5 : PySem.W.isFn K (.ref f5) = true)
    (l5 : K.lookup f5 = some ⟨oc5, od5, .func (PySem.W.fnOf "lend" "LeasePart.lend" (defArgs sLend) (defBody sLend) (defScope sLend) .none kV5 dc5 pm5 an5 cd5 ct5), sl5⟩)
    (c5 : PySem.W.codeIn K cd5 "LeasePart.lend" = true)
    (k5 : PySem.W.keepIn K (.ref f5) = true)
    (a6 : PySem.W.findIn K (.ref C) "hand_on" = some (some (.ref f6)))
    (i6 : PySem.W.isFn K (.ref f6) = true)
    (l6 : K.lookup f6 = some ⟨oc6, od6, .func (PySem.W.fnOf "hand_on" "LeasePart.hand_on" (defArgs sHandOn) (defBody sHandOn) (defScope sHandOn) .none kV6 dc6 pm6 an6 cd6 ct6), sl6⟩)
    (c6 : PySem.W.codeIn K cd6 "LeasePart.hand_on" = true)
    (k6 : PySem.W.keepIn K (.ref f6) = true)
    (a7 : PySem.W.findIn K (.ref C) "got" = some (some (.ref f7)))
    (i7 : PySem.W.isFn K (.ref f7) = true)
    (l7 : K.lookup f7 = some ⟨oc7, od7, .func (PySem.W.fnOf "got" "LeasePart.got" (defArgs sGot) (defBody sGot) (defScope sGot) .none kV7 dc7 pm7 an7 cd7 ct7), sl7⟩)
    (c7 : PySem.W.codeIn K cd7 "LeasePart.got" = true)
    (k7 : PySem.W.keepIn K (.ref f7) = true)
    (a8 : PySem.W.findIn K (.ref C) "is_held" = some (some (.ref f8)))
    (i8 : PySem.W.isFn K (.ref f8) = true)
    (l8 : K.lookup f8 = some ⟨oc8, od8, .func (PySem.W.fnOf "is_held" "LeasePart.is_held" (defArgs sHeld) (defBody sHeld) (defScope sHeld) .none kV8 dc8 pm8 an8 cd8 ct8), sl8⟩)
    (c8 : PySem.W.codeIn K cd8 "LeasePart.is_held" = true)
    (k8 : PySem.W.keepIn K (.ref f8) = true)
    (a9 : PySem.W.findIn K (.ref C) "let_go" = some (some (.ref f9)))
    (i9 : PySem.W.isFn K (.ref f9) = true)
    (l9 : K.lookup f9 = some ⟨oc9, od9, .func (PySem.W.fnOf "let_go" "LeasePart.let_go" (defArgs sLetGo) (defBody sLetGo) (defScope sLetGo) .none kV9 dc9 pm9 an9 cd9 ct9), sl9⟩)
    (c9 : PySem.W.codeIn K cd9 "LeasePart.let_go" = true)
    (k9 : PySem.W.keepIn K (.ref f9) = true)
    (a10 : PySem.W.findIn K (.ref C) "take" = some (some (.ref f10)))
    (i10 : PySem.W.isFn K (.ref f10) = true)
    (l10 : K.lookup f10 = some ⟨oc10, od10, .func (PySem.W.fnOf "take" "LeasePart.take" (defArgs sTake) (defBody sTake) (defScope sTake) .none kV10 dc10 pm10 an10 cd10 ct10), sl10⟩)
    (c10 : PySem.W.codeIn K cd10 "LeasePart.take" = true)
    (k10 : PySem.W.keepIn K (.ref f10) = true)
    (a11 : PySem.W.findIn K (.ref C) "lapse" = some (some (.ref f11)))
    (i11 : PySem.W.isFn K (.ref f11) = true)
    (l11 : K.lookup f11 = some ⟨oc11, od11, .func (PySem.W.fnOf "lapse" "LeasePart.lapse" (defArgs sLapse) (defBody sLapse) (defScope sLapse) .none kV11 dc11 pm11 an11 cd11 ct11), sl11⟩)
    (c11 : PySem.W.codeIn K cd11 "LeasePart.lapse" = true)
    (k11 : PySem.W.keepIn K (.ref f11) = true)
    (a12 : PySem.W.findIn K (.ref C) "knows" = some (some (.ref f12)))
    (i12 : PySem.W.isFn K (.ref f12) = true)
    (l12 : K.lookup f12 = some ⟨oc12, od12, .func (PySem.W.fnOf "knows" "LeasePart.knows" (defArgs sKnows) (defBody sKnows) (defScope sKnows) .none kV12 dc12 pm12 an12 cd12 ct12), sl12⟩)
    (c12 : PySem.W.codeIn K cd12 "LeasePart.knows" = true)
    (k12 : PySem.W.keepIn K (.ref f12) = true)
    (a13 : PySem.W.nsIn K mainGlobals "_law_cell" = some (some (.ref f13)))
    (l13 : K.lookup f13 = some ⟨oc13, od13, .func (PySem.W.fnOf "_law_cell" "_law_cell" (defArgs sCell) (defBody sCell) (defScope sCell) .none kV13 dc13 pm13 an13 cd13 ct13), sl13⟩)
    (c13 : PySem.W.codeIn K cd13 "_law_cell" = true)
    (k13 : PySem.W.keepIn K (.ref f13) = true)
    (a14 : PySem.W.nsIn K mainGlobals "_law_draws" = some (some (.ref f14)))
    (l14 : K.lookup f14 = some ⟨oc14, od14, .func (PySem.W.fnOf "_law_draws" "_law_draws" (defArgs sDraws) (defBody sDraws) (defScope sDraws) .none kV14 dc14 pm14 an14 cd14 ct14), sl14⟩)
    (c14 : PySem.W.codeIn K cd14 "_law_draws" = true)
    (k14 : PySem.W.keepIn K (.ref f14) = true)
    (a15 : PySem.W.nsIn K mainGlobals "_law_web" = some (some (.ref f15)))
    (l15 : K.lookup f15 = some ⟨oc15, od15, .func (PySem.W.fnOf "_law_web" "_law_web" (defArgs sWeb) (defBody sWeb) (defScope sWeb) .none kV15 dc15 pm15 an15 cd15 ct15), sl15⟩)
    (c15 : PySem.W.codeIn K cd15 "_law_web" = true)
    (k15 : PySem.W.keepIn K (.ref f15) = true)
    (a16 : PySem.W.nsIn K mainGlobals "_law_written" = some (some (.ref f16)))
    (l16 : K.lookup f16 = some ⟨oc16, od16, .func (PySem.W.fnOf "_law_written" "_law_written" (defArgs sWritten) (defBody sWritten) (defScope sWritten) .none kV16 dc16 pm16 an16 cd16 ct16), sl16⟩)
    (c16 : PySem.W.codeIn K cd16 "_law_written" = true)
    (k16 : PySem.W.keepIn K (.ref f16) = true)
    (a17 : PySem.W.nsIn K mainGlobals "_law_handed" = some (some (.ref f17)))
    (l17 : K.lookup f17 = some ⟨oc17, od17, .func (PySem.W.fnOf "_law_handed" "_law_handed" (defArgs sHanded) (defBody sHanded) (defScope sHanded) .none kV17 dc17 pm17 an17 cd17 ct17), sl17⟩)
    (c17 : PySem.W.codeIn K cd17 "_law_handed" = true)
    (k17 : PySem.W.keepIn K (.ref f17) = true)
    (a18 : PySem.W.nsIn K mainGlobals "_law_done" = some (some (.ref f18)))
    (l18 : K.lookup f18 = some ⟨oc18, od18, .func (PySem.W.fnOf "_law_done" "_law_done" (defArgs sDone) (defBody sDone) (defScope sDone) .none kV18 dc18 pm18 an18 cd18 ct18), sl18⟩)
    (c18 : PySem.W.codeIn K cd18 "_law_done" = true)
    (k18 : PySem.W.keepIn K (.ref f18) = true)
    (a19 : PySem.W.nsIn K mainGlobals "_law_some_done" = some (some (.ref f19)))
    (l19 : K.lookup f19 = some ⟨oc19, od19, .func (PySem.W.fnOf "_law_some_done" "_law_some_done" (defArgs sSome) (defBody sSome) (defScope sSome) .none kV19 dc19 pm19 an19 cd19 ct19), sl19⟩)
    (c19 : PySem.W.codeIn K cd19 "_law_some_done" = true)
    (k19 : PySem.W.keepIn K (.ref f19) = true)
    (a20 : PySem.W.nsIn K mainGlobals "_law_kept" = some (some (.ref f20)))
    (l20 : K.lookup f20 = some ⟨oc20, od20, .func (PySem.W.fnOf "_law_kept" "_law_kept" (defArgs sKept) (defBody sKept) (defScope sKept) .none kV20 dc20 pm20 an20 cd20 ct20), sl20⟩)
    (c20 : PySem.W.codeIn K cd20 "_law_kept" = true)
    (k20 : PySem.W.keepIn K (.ref f20) = true)
    (a21 : PySem.W.nsIn K mainGlobals "_law_stepped" = some (some (.ref f21)))
    (l21 : K.lookup f21 = some ⟨oc21, od21, .func (PySem.W.fnOf "_law_stepped" "_law_stepped" (defArgs sStepped) (defBody sStepped) (defScope sStepped) .none kV21 dc21 pm21 an21 cd21 ct21), sl21⟩)
    (c21 : PySem.W.codeIn K cd21 "_law_stepped" = true)
    (k21 : PySem.W.keepIn K (.ref f21) = true)
    (a22 : PySem.W.nsIn K mainGlobals "_law_names" = some (some (.ref f22)))
    (l22 : K.lookup f22 = some ⟨oc22, od22, .func (PySem.W.fnOf "_law_names" "_law_names" (defArgs sNames) (defBody sNames) (defScope sNames) .none kV22 dc22 pm22 an22 cd22 ct22), sl22⟩)
    (c22 : PySem.W.codeIn K cd22 "_law_names" = true)
    (k22 : PySem.W.keepIn K (.ref f22) = true)
    (a23 : PySem.W.nsIn K mainGlobals "_law_comes" = some (some (.ref f23)))
    (l23 : K.lookup f23 = some ⟨oc23, od23, .func (PySem.W.fnOf "_law_comes" "_law_comes" (defArgs sComes) (defBody sComes) (defScope sComes) .none kV23 dc23 pm23 an23 cd23 ct23), sl23⟩)
    (c23 : PySem.W.codeIn K cd23 "_law_comes" = true)
    (k23 : PySem.W.keepIn K (.ref f23) = true)
    (a24 : PySem.W.nsIn K mainGlobals "_law_turned" = some (some (.ref f24)))
    (l24 : K.lookup f24 = some ⟨oc24, od24, .func (PySem.W.fnOf "_law_turned" "_law_turned" (defArgs sTurned) (defBody sTurned) (defScope sTurned) .none kV24 dc24 pm24 an24 cd24 ct24), sl24⟩)
    (c24 : PySem.W.codeIn K cd24 "_law_turned" = true)
    (k24 : PySem.W.keepIn K (.ref f24) = true)
    (a25 : PySem.W.nsIn K mainGlobals "_law_leases" = some (some (.ref f25)))
    (l25 : K.lookup f25 = some ⟨oc25, od25, .func (PySem.W.fnOf "_law_leases" "_law_leases" (defArgs sLeases) (defBody sLeases) (defScope sLeases) .none kV25 dc25 pm25 an25 cd25 ct25), sl25⟩)
    (c25 : PySem.W.codeIn K cd25 "_law_leases" = true)
    (k25 : PySem.W.keepIn K (.ref f25) = true)
    (a26 : PySem.W.nsIn K mainGlobals "law" = some (some (.ref f26)))
    (l26 : K.lookup f26 = some ⟨oc26, od26, .func (PySem.W.fnOf "law" "law" (defArgs sLaw) (defBody sLaw) (defScope sLaw) .none kV26 dc26 pm26 an26 cd26 ct26), sl26⟩)
    (c26 : PySem.W.codeIn K cd26 "law" = true)
    (k26 : PySem.W.keepIn K (.ref f26) = true)
    (pg : PySem.W.plainGet K C Str.empty = true)
    (hd : PySem.W.hasDictIn K C = true)
    (po : PySem.W.plainOver K C = true)
    (sa : PySem.W.findIn K (.ref C) "__setattr__" = some (some (.builtin "object.__setattr__")))
    (mk : PySem.W.makesIn K C = true)
    (kc : PySem.W.keepIn K (.ref C) = true)
    (rd : PySem.W.readsIn K Pa (.type "type") = true)
    (ga : PySem.W.specialIn K (.ref Pa) "__getattribute__" = some (some (.builtin "type.__getattribute__")))
    (nHo : PySem.W.findIn K (.ref C) "house" = some none)
    (nNo : PySem.W.findIn K (.ref C) "now" = some none)
    (nOw : PySem.W.findIn K (.ref C) "owns" = some none)
    (nHe : PySem.W.findIn K (.ref C) "heres" = some none)
    (lg : PySem.W.nsIn K mainGlobals "LONG" = some (some (.int 8 tl)))
    (zLen : PySem.W.nsIn K mainGlobals "len" = some none)
    (zMax : PySem.W.nsIn K mainGlobals "max" = some none)
    (zList : PySem.W.nsIn K mainGlobals "list" = some none)
    (zSorted : PySem.W.nsIn K mainGlobals "sorted" = some none)
    (zTuple : PySem.W.nsIn K mainGlobals "tuple" = some none)
    (zRange : PySem.W.nsIn K mainGlobals "range" = some none)
    (zEnum : PySem.W.nsIn K mainGlobals "enumerate" = some none) :
    ∃ fd : FuncData, (∀ (s : Shared) (v : Value), BindsTo s fd ⟨[v], []⟩ [("_law_script", v)]) ∧ ∀ base : Heap, K.In base → base.Ns mainGlobals mg → FnOk l.prog w K mg base CX0 8 fa fd ["_law_script"] (spLaw K) := by
  have e := hfa.symm.trans (PySem.W.mg_of X G a26)
  cases e
  have T : { T : TX K mg // T.aLaw = fa ∧ T.dLaw = PySem.W.fnOf "law" "law" (defArgs sLaw) (defBody sLaw) (defScope sLaw) .none kV26 dc26 pm26 an26 cd26 ct26 } := ⟨{
      C := C
      P := Pa
      aPI := f0
      dPI := _
      FPI := fun_mk (st := sPInit) l0 c0 k0
      aInit := f1
      dInit := _
      FInit := fun_mk (st := sInit) l1 c1 k1
      aOwn := f2
      dOwn := _
      FOwn := fun_mk (st := sIsOwn) l2 c2 k2
      aCop := f3
      dCop := _
      FCop := fun_mk (st := sCopied) l3 c3 k3
      aLease := f4
      dLease := _
      FLease := fun_mk (st := sLease) l4 c4 k4
      aLend := f5
      dLend := _
      FLend := fun_mk (st := sLend) l5 c5 k5
      aHand := f6
      dHand := _
      FHand := fun_mk (st := sHandOn) l6 c6 k6
      aGot := f7
      dGot := _
      FGot := fun_mk (st := sGot) l7 c7 k7
      aHeld := f8
      dHeld := _
      FHeld := fun_mk (st := sHeld) l8 c8 k8
      aLet := f9
      dLet := _
      FLet := fun_mk (st := sLetGo) l9 c9 k9
      aTake := f10
      dTake := _
      FTake := fun_mk (st := sTake) l10 c10 k10
      aLapse := f11
      dLapse := _
      FLapse := fun_mk (st := sLapse) l11 c11 k11
      aKnows := f12
      dKnows := _
      FKnows := fun_mk (st := sKnows) l12 c12 k12
      aCell := f13
      dCell := _
      FCell := fun_mk (st := sCell) l13 c13 k13
      aDraws := f14
      dDraws := _
      FDraws := fun_mk (st := sDraws) l14 c14 k14
      aWeb := f15
      dWeb := _
      FWeb := fun_mk (st := sWeb) l15 c15 k15
      aWri := f16
      dWri := _
      FWri := fun_mk (st := sWritten) l16 c16 k16
      aHdd := f17
      dHdd := _
      FHdd := fun_mk (st := sHanded) l17 c17 k17
      aDone := f18
      dDone := _
      FDone := fun_mk (st := sDone) l18 c18 k18
      aSome := f19
      dSome := _
      FSome := fun_mk (st := sSome) l19 c19 k19
      aKept := f20
      dKept := _
      FKept := fun_mk (st := sKept) l20 c20 k20
      aStep := f21
      dStep := _
      FStep := fun_mk (st := sStepped) l21 c21 k21
      aNames := f22
      dNames := _
      FNames := fun_mk (st := sNames) l22 c22 k22
      aComes := f23
      dComes := _
      FComes := fun_mk (st := sComes) l23 c23 k23
      aTurn := f24
      dTurn := _
      FTurn := fun_mk (st := sTurned) l24 c24 k24
      aLs := f25
      dLs := _
      FLs := fun_mk (st := sLeases) l25 c25 k25
      aLaw := fa
      dLaw := _
      FLaw := fun_mk (st := sLaw) l26 c26 k26
      cl := ⟨pg, hd, po, sa⟩
      nHouse := nHo
      nNow := nNo
      nOwns := nOw
      nHeres := nHe
      mkC := ⟨mk, a1, i1, kc⟩
      rdP := ⟨rd, ga⟩
      fnP := ⟨a0, k0⟩
      mOwn := ⟨a2, i2, k2⟩
      mCop := ⟨a3, i3, k3⟩
      mLease := ⟨a4, i4, k4⟩
      mLend := ⟨a5, i5, k5⟩
      mHand := ⟨a6, i6, k6⟩
      mGot := ⟨a7, i7, k7⟩
      mHeld := ⟨a8, i8, k8⟩
      mLet := ⟨a9, i9, k9⟩
      mTake := ⟨a10, i10, k10⟩
      mLapse := ⟨a11, i11, k11⟩
      mKnows := ⟨a12, i12, k12⟩
      gP := PySem.W.mg_of X G aP
      gC := PySem.W.mg_of X G aC
      gLong := ⟨_, PySem.W.mg_of X G lg⟩
      gCell := PySem.W.mg_of X G a13
      gDraws := PySem.W.mg_of X G a14
      gWeb := PySem.W.mg_of X G a15
      gWri := PySem.W.mg_of X G a16
      gHdd := PySem.W.mg_of X G a17
      gDone := PySem.W.mg_of X G a18
      gSome := PySem.W.mg_of X G a19
      gKept := PySem.W.mg_of X G a20
      gStep := PySem.W.mg_of X G a21
      gNames := PySem.W.mg_of X G a22
      gComes := PySem.W.mg_of X G a23
      gTurn := PySem.W.mg_of X G a24
      gLs := PySem.W.mg_of X G a25
      gLaw := PySem.W.mg_of X G a26
      zLen := PySem.W.mg_none_of X G zLen
      zMax := PySem.W.mg_none_of X G zMax
      zList := PySem.W.mg_none_of X G zList
      zSorted := PySem.W.mg_none_of X G zSorted
      zTuple := PySem.W.mg_none_of X G zTuple
      zRange := PySem.W.mg_none_of X G zRange
      zEnum := PySem.W.mg_none_of X G zEnum }, rfl, rfl⟩
  obtain ⟨T, e1, e2⟩ := T
  refine ⟨PySem.W.fnOf "law" "law" (defArgs sLaw) (defBody sLaw) (defScope sLaw) .none kV26 dc26 pm26 an26 cd26 ct26, fun s v => .of_eq rfl, fun base _ _ => ?_⟩
  have h := ok_law (P := l.prog) (w := w) (base := base) T
  rw [e1, e2] at h
  exact h
theorem walk {l : PySem.W.OpenLaw} {q : Program} {loose : List Str} {XP : (Str → Option Value) → Heap → Prop} {YP : World → Heap → Prop} {d : DefRec} {K : Params → PySem.W.Frag} (hn : l.most = some 63) (hdf : d.params.defaults = [])
    (hY : ∀ (w : World) (h : Heap), YP w h → (K w.params).In h)
    (F : ∀ (w : World) (mg : Str → Option Value) (fa : Addr) (h : Heap), (K w.params).In h → h.Ns mainGlobals mg → mg d.name = some (.ref fa) →
      ∃ fd : FuncData, (∀ (s : Shared) (u : Value), BindsTo s fd ⟨[u], []⟩ [("_law_script", u)]) ∧ ∀ base : Heap, (K w.params).In base → base.Ns mainGlobals mg → FnOk l.prog w (K w.params) mg base CX0 8 fa fd ["_law_script"] (spLaw (K w.params))) :
    PySem.W.WalkO q loose XP YP l.row.toRowW d [] (fun f vs => PySem.call f vs) :=
  L2.walk_of (n := 63) (k := 8) (x := "_law_script") (CX := fun _ => CX0) (sp := fun w => spLaw (K w.params)) hn (by decide) hdf ⟨rfl, by decide, by decide⟩ hY F (fun _ _ a ns _ _ hS => ⟨a, ns, rfl, hS, fun _ => rfl⟩) fun _ _ _ _ _ z => z
end K48
open PySem PySem.W PyProof.Rows
set_option maxRecDepth 100000 in
set_option maxHeartbeats 0 in
theorem PySem.Challenge.cw_heldafar_k48_whole_leases_safe_holds : PySem.Challenge.rw_heldafar_k48_whole_leases_safe.Holds := by
  w_on; o_law; k_head; (case hw => w_witness2)
  k_fill
  refine K48.walk (l := PySem.Challenge.rw_heldafar_k48_whole_leases_safe) rfl rfl (fun w h Y => PySem.W.kIn_of Y) ?F
  case F =>
    intro w mg fa h KX G hmg
    refine' K48.all_mk KX G hmg ?aC ?aP ?a0 ?l0 ?c0 ?k0 ?a1 ?i1 ?l1 ?c1 ?k1 ?a2 ?i2 ?l2 ?c2 ?k2 ?a3 ?i3 ?l3 ?c3 ?k3 ?a4 ?i4 ?l4 ?c4 ?k4 ?a5 ?i5 ?l5 ?c5 ?k5 ?a6 ?i6 ?l6 ?c6 ?k6 ?a7 ?i7 ?l7 ?c7 ?k7 ?a8 ?i8 ?l8 ?c8 ?k8 ?a9 ?i9 ?l9 ?c9 ?k9 ?a10 ?i10 ?l10 ?c10 ?k10 ?a11 ?i11 ?l11 ?c11 ?k11 ?a12 ?i12 ?l12 ?c12 ?k12 ?a13 ?l13 ?c13 ?k13 ?a14 ?l14 ?c14 ?k14 ?a15 ?l15 ?c15 ?k15 ?a16 ?l16 ?c16 ?k16 ?a17 ?l17 ?c17 ?k17 ?a18 ?l18 ?c18 ?k18 ?a19 ?l19 ?c19 ?k19 ?a20 ?l20 ?c20 ?k20 ?a21 ?l21 ?c21 ?k21 ?a22 ?l22 ?c22 ?k22 ?a23 ?l23 ?c23 ?k23 ?a24 ?l24 ?c24 ?k24 ?a25 ?l25 ?c25 ?k25 ?a26 ?l26 ?c26 ?k26 ?pg ?hd ?po ?sa ?mk ?kc ?rd ?ga ?nHo ?nNo ?nOw ?nHe ?lg ?zLen ?zMax ?zList ?zSorted ?zTuple ?zRange ?zEnum
    (case aC => k_is)
    (case aP => k_is)
    (case a0 => k_is)
    (case l0 => k_is)
    (case c0 => k_is)
    (case k0 => k_is)
    (case a1 => k_is)
    (case i1 => k_is)
    (case l1 => k_is)
    (case c1 => k_is)
    (case k1 => k_is)
    (case a2 => k_is)
    (case i2 => k_is)
    (case l2 => k_is)
    (case c2 => k_is)
    (case k2 => k_is)
    (case a3 => k_is)
    (case i3 => k_is)
    (case l3 => k_is)
    (case c3 => k_is)
    (case k3 => k_is)
    (case a4 => k_is)
    (case i4 => k_is)
    (case l4 => k_is)
    (case c4 => k_is)
    (case k4 => k_is)
    (case a5 => k_is)
    (case i5 => k_is)
    (case l5 => k_is)
    (case c5 => k_is)
    (case k5 => k_is)
    (case a6 => k_is)
    (case i6 => k_is)
    (case l6 => k_is)
    (case c6 => k_is)
    (case k6 => k_is)
    (case a7 => k_is)
    (case i7 => k_is)
    (case l7 => k_is)
    (case c7 => k_is)
    (case k7 => k_is)
    (case a8 => k_is)
    (case i8 => k_is)
    (case l8 => k_is)
    (case c8 => k_is)
    (case k8 => k_is)
    (case a9 => k_is)
    (case i9 => k_is)
    (case l9 => k_is)
    (case c9 => k_is)
    (case k9 => k_is)
    (case a10 => k_is)
    (case i10 => k_is)
    (case l10 => k_is)
    (case c10 => k_is)
    (case k10 => k_is)
    (case a11 => k_is)
    (case i11 => k_is)
    (case l11 => k_is)
    (case c11 => k_is)
    (case k11 => k_is)
    (case a12 => k_is)
    (case i12 => k_is)
    (case l12 => k_is)
    (case c12 => k_is)
    (case k12 => k_is)
    (case a13 => k_is)
    (case l13 => k_is)
    (case c13 => k_is)
    (case k13 => k_is)
    (case a14 => k_is)
    (case l14 => k_is)
    (case c14 => k_is)
    (case k14 => k_is)
    (case a15 => k_is)
    (case l15 => k_is)
    (case c15 => k_is)
    (case k15 => k_is)
    (case a16 => k_is)
    (case l16 => k_is)
    (case c16 => k_is)
    (case k16 => k_is)
    (case a17 => k_is)
    (case l17 => k_is)
    (case c17 => k_is)
    (case k17 => k_is)
    (case a18 => k_is)
    (case l18 => k_is)
    (case c18 => k_is)
    (case k18 => k_is)
    (case a19 => k_is)
    (case l19 => k_is)
    (case c19 => k_is)
    (case k19 => k_is)
    (case a20 => k_is)
    (case l20 => k_is)
    (case c20 => k_is)
    (case k20 => k_is)
    (case a21 => k_is)
    (case l21 => k_is)
    (case c21 => k_is)
    (case k21 => k_is)
    (case a22 => k_is)
    (case l22 => k_is)
    (case c22 => k_is)
    (case k22 => k_is)
    (case a23 => k_is)
    (case l23 => k_is)
    (case c23 => k_is)
    (case k23 => k_is)
    (case a24 => k_is)
    (case l24 => k_is)
    (case c24 => k_is)
    (case k24 => k_is)
    (case a25 => k_is)
    (case l25 => k_is)
    (case c25 => k_is)
    (case k25 => k_is)
    (case a26 => k_is)
    (case l26 => k_is)
    (case c26 => k_is)
    (case k26 => k_is)
    (case pg => k_is)
    (case hd => k_is)
    (case po => k_is)
    (case sa => k_is)
    (case mk => k_is)
    (case kc => k_is)
    (case rd => k_is)
    (case ga => k_is)
    (case nHo => k_is)
    (case nNo => k_is)
    (case nOw => k_is)
    (case nHe => k_is)
    (case lg => k_is)
    (case zLen => k_is)
    (case zMax => k_is)
    (case zList => k_is)
    (case zSorted => k_is)
    (case zTuple => k_is)
    (case zRange => k_is)
    (case zEnum => k_is)
