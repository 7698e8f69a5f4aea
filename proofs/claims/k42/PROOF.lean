import PyProof.Rows.All
import Wide.All
import OpenK.AllK
import Wide.FinOn
import HandS.Base
import HandS.Call
import HandS.List
import HandS.Comp
import HandS.Dict
import HandS.Iter
import HandS.Text
import HandS.Exc
import HandS.Ends
import HandS.Words
import HandS.DictComp
import HandS.DictTup
import HandS.TupSets
import HandS.Conv
import HandS.Star
import HandS.ClsMeth
import HandS.Strs
import HandS.Wide
import KE.GoesDict
import KE.KDictCopyH
import HandS.Walk
import HandS.Property
import HandS.IsInst
import HandS.Style
import KE.KDictSum
import KE.KStateDown
import HandS.More
import HandS.WordsExc
import HandS.Defaults
import HandS.Head0
import HandS.Head1
import HandS.Head2
import HandS.HeadEnd
import HandS.HeadHook1
import HandS.HeadHook2
import HandS.HeadHook3
import HandS.HeadNt
import PyProof.StrOps2
import PySem.Challenge.RW_overstamps_k42_numbers_of_parts_shown
import PyProof.Rows.RegFStrParts
import HandS.Deep
set_option Elab.async false
set_option linter.all false
set_option maxRecDepth 100000
set_option maxHeartbeats 4000000
namespace Ov
open PySem PySem.Spec PyProof.Rows L2

/-! ### numbers -/
def CPowW (i j : Int) : Prop := 0 ≤ j ∧ (Builtin.Int.intBits i : Int) * j ≤ 2 ^ 27
section
variable {X : Cx}
theorem op_powW : OpR X (binaryOp .Pow) (rI CPowW fun i j => .int (i ^ j.toNat)) := opI fun _ _ _ _ _ _ _ hc q => pow_int hc.1 hc.2 q
end
theorem powW_of {i j : Int} {a : Nat} (ha : i.natAbs < 2 ^ a) (h0 : 0 < a) (hj : 0 ≤ j) (h : (a : Int) * j ≤ 2 ^ 27) : CPowW i j := by
  refine ⟨hj, ?_⟩
  have h1 := PySem.Flt.log2_lt_of h0 ha
  have h2 : (Builtin.Int.intBits i : Int) ≤ a := by
    unfold Builtin.Int.intBits
    split <;> omega
  exact Int.le_trans (Int.mul_le_mul_of_nonneg_right h2 hj) h

/-! ### repr of data -/
section
variable {X : Cx}
def rReprD (K : PySem.W.Frag) : List V → Hp → VK → Prop := fun xs H Q => ∃ x d, xs = [x] ∧ Dp K H x d ∧ isDisplay d = true ∧ d.showable = true ∧ d.hasDict = false ∧ d.depth ≤ 60 ∧ d.shown.length ≤ sizeLine ∧ Q (.str d.shown) H
theorem call_reprD (hg : X.A.guards = some []) (hu : X.A.units + 64 < cLine) : CallR X (.builtin "repr") (rReprD X.K) := by
  intro pins s σ H xs us Q I r h
  obtain ⟨x, d, rfl, hd, hdi, hs, hn, hdp, hsz, q⟩ := h
  obtain ⟨u, rfl, ru⟩ := vals1 r
  obtain ⟨as, rd⟩ := Dp.reads I d x u hd ru
  obtain ⟨a, rfl⟩ := isRef_of_reads rd hdi
  exact repr_of_reads' rd hs (PyData.noDict_hsm hn) hg (by omega) (fun _ _ e => e) (fun h' v tk hk => ⟨.str d.shown, H, I.kept (t' := tk) hk, ⟨v, rfl⟩, q⟩) hsz
end

/-! ### promises of defs that are called with no repr around -/
structure FnG (P : Program) (w : World) (K : PySem.W.Frag) (mg : Str → Option Value) (base : Heap) (CX : CXT) (k : Nat) (f : Addr) (fd : FuncData) (ps : List Str) (sp : Sp) : Prop where
  len : ∀ vs H Q E, sp vs H Q E → vs.length = ps.length
  run : ∀ (A : Around) (outer : List Env) (s : Shared) (H : Hp) (args : Args) (us : List Value) (vs : List V) (Q : VK) (E : XK), A.guards = some [] → Room k A → Env0 P w K mg base A outer s H → BindsTo s fd args (ps.zip us) → Vals vs us → sp vs H Q E →
    codeAny (model P w) A (.call (.ref f) args) (CR CX outer P w H s Q E) s
theorem FnG.of {P : Program} {w : World} {K : PySem.W.Frag} {mg : Str → Option Value} {base : Heap} {CX : CXT} {k : Nat} {f : Addr} {fd : FuncData} {ps : List Str} {sp : Sp} (F : FnOk P w K mg base CX k f fd ps sp) : FnG P w K mg base CX k f fd ps sp :=
  ⟨F.len, fun A outer s H args us vs Q E _ => F.run A outer s H args us vs Q E⟩
theorem fn_ofG {CX : CXT} {P : Program} {w : World} {K : PySem.W.Frag} {mg : Str → Option Value} {base : Heap} {k : Nat} {f : Addr} {name qual : Str} {params : Arguments} {body : List Stmt} {scope : Scope} {dV kV doc pm cdv ct oc : Value} {an od : Option Addr}
    {osl : Array (Option Value)} {N ps : List Str} {sp : Sp} (lk : K.lookup f = some ⟨oc, od, .func (PySem.W.fnOf name qual params body scope dV kV doc pm an cdv ct), osl⟩) (hcd : PySem.W.codeIn K cdv qual = true) (S : FnScope N ps scope)
    (len : ∀ vs H Q E, sp vs H Q E → vs.length = ps.length)
    (hbody : ∀ (A : Around) (outer : List Env) (s : Shared) (H : Hp) (vs : List V) (Q : VK) (E : XK), A.guards = some [] → Room k (A.deeper (envOfC qual scope s.heap.objs.size f cdv)) → sp vs H Q E →
      ∃ t, PSs (cxOf CX P w K mg base N qual scope f cdv A outer s H E) body t ∧ t { nx := fun _ H' => Q .non H', rt := Q } (start N vs) H) :
    FnG P w K mg base CX (k + 1) f (PySem.W.fnOf name qual params body scope dV kV doc pm an cdv ct) ps sp := by
  refine ⟨len, fun A outer s H args us vs Q E hg hr e0 hb r hsp => ?_⟩
  have hl := len _ _ _ _ hsp
  have KX : K.In s.heap := e0.mod.kin.keeps fun b o e => (e0.bs b o e).1
  have lim : s.heap.NoLimit := e0.mod.nolimit.keeps fun b o e => (e0.bs b o e).1
  have hkind : ∀ y ∈ ps.zip us, scope.names.lookup y.1 = some .local ∨ (scope.names.lookup y.1 = some .cell ∧ ((cellsFrom (s.heap.objs.size + 1) scope.names []).lookup y.1).isSome = true) := fun ⟨n, v⟩ hy => by
    rcases S.par n (List.of_mem_zip hy).1 with q | q
    · exact .inl q
    · exact .inr ⟨q, PySem.W.cellsFrom_some _ _ _ (.inl q)⟩
  refine codeAny_call_function hr.depth (KX _ _ lk) rfl S.co S.gen rfl (PySem.W.codeRec_of KX hcd) (hb _ _ _ _ ?_)
  refine wpAny_newFunctionEnv_cells S.kind hkind fun env he s1 x => ?_
  subst he
  refine ⟨lim.keeps x.toInCall.keep, codeAny_func ?_⟩
  obtain ⟨t, ht, hq⟩ := hbody A outer s H vs Q E hg (hr.deeper _) hsp
  have I : Inv (cxOf CX P w K mg base N qual scope f cdv A outer s H E) [] (start N vs) H s1 := inv_start S hr.hd e0 hl r x
  refine wpAny_mono (ht.run [] s1 (start N vs) H _ I hq) (fun fl s' hs => ?_) fun e s' hs => hs
  have fin : ∀ {σ' : L2.St} {H' : Hp} {v : V} {u : Value}, Inv (cxOf CX P w K mg base N qual scope f cdv A outer s H E) [] σ' H' s' → RelV v u → Q v H' → CE outer P w H s Q u s' :=
    fun {σ' H' v u} J rv q => ⟨v, H', J.os, J.bare, J.base, J.hok, rv, q⟩
  cases fl with
  | ret u =>
    obtain ⟨v, σ', H', J, rv, q⟩ := hs
    exact fin J rv q
  | next =>
    obtain ⟨σ', H', J, q⟩ := hs
    exact fin (v := V.non) (u := Value.none) J rfl q
  | brk =>
    obtain ⟨_, _, _, q⟩ := hs
    exact False.elim q
  | cont =>
    obtain ⟨_, _, _, q⟩ := hs
    exact False.elim q
section
variable {P : Program} {w : World} {K : PySem.W.Frag} {mg : Str → Option Value} {base : Heap}
/-- as Fun.ok -/
theorem okG {x qual : Str} {st : Stmt} {f : Addr} {fd : FuncData} {N ps : List Str} {k : Nat} {sp : Sp} (F : Fun K x qual st f fd) (S : FnScope N ps (defScope st)) (len : ∀ vs H Q E, sp vs H Q E → vs.length = ps.length)
    (hbody : ∀ (cdv : Value) (A : Around) (outer : List Env) (s : Shared) (H : Hp) (vs : List V) (Q : VK) (E : XK), A.guards = some [] → Room k (A.deeper (envOfC qual (defScope st) s.heap.objs.size f cdv)) → sp vs H Q E →
      ∃ t, PSs (cxOf CX0 P w K mg base N qual (defScope st) f cdv A outer s H E).nox (defBody st) t ∧ t { nx := fun _ H' => Q .non H', rt := Q } (start N vs) H) : FnG P w K mg base CX0 (k + 1) f fd ps sp := by
  obtain ⟨oc, od, kV, doc, pm, an, cdv, ct, osl, rfl, lk, hcd⟩ := F.ex
  refine fn_ofG lk hcd S len fun A outer s H vs Q E hg hr hsp => ?_
  obtain ⟨t, h, q⟩ := hbody cdv A outer s H vs Q E hg hr hsp
  exact ⟨t, h.nox, q⟩
end
section
variable {X : Cx} {CX : CXT} {k : Nat} {f C : Addr} {fd : FuncData} {ps : List Str} {sp : Sp} {dvs : List V} {ds : List Value} {E : XK} {x m : Str} {p pos apos : Pos} {e o : Expr} {es : List Expr} {ta : TE} {t : TA}
theorem run_fnG {pins : List (Addr × Obj)} {σ : L2.St} {H : Hp} {s : Shared} {Q : VK} {us : List Value} {vs : List V} (F : FnG X.prog X.w X.K X.mg X.base CX k f fd ps sp) (hg : X.A.guards = some []) (hr : Room k X.A) (hb : Binds X.K fd ps ds) (hd : Vals dvs ds) (hx : Passes CX X E)
    (I : Inv X pins σ H s) (r : Vals vs us) (h : sp (vs ++ dvs) H Q E) : wpAny (model X.prog X.w) X.A (call (.ref f) us) (EP X pins σ Q) X.xe s := by
  have r2 : Vals (vs ++ dvs) (us ++ ds) := r.append hd
  have hl : (us ++ ds).length = ps.length := by rw [← r2.length]; exact F.len _ _ _ _ h
  refine wpAny_call (codeAny_mono (F.run X.A X.stack s H ⟨us, []⟩ (us ++ ds) (vs ++ dvs) Q E hg hr I.env0 (hb s us I.kIn hl) r2 h) fun r s' hq => ?_)
  cases r with
  | error e => exact hx pins σ H s e s' I hq
  | ok fl =>
    cases fl with
    | ret u => exact I.after hq
    | next => exact False.elim hq
    | brk => exact False.elim hq
    | cont => exact False.elim hq
end
end Ov

set_option Elab.async false
set_option linter.all false
set_option maxRecDepth 100000
set_option maxHeartbeats 4000000
namespace Ov
open PySem PySem.Spec PyProof.Rows L2

/-! ### a dict with tuple keys, raw -/
theorem dT_raw {P : Program} {w : World} {H : Hp} {h : Heap} {d : Addr} {kvs : List (List Key × V)} (hok : HOk P w H h) (hd : Rd H d (.dT kvs)) :
    kvs.length ≤ sizeLine ∧ (d == sysModules) = false ∧ ∃ (o : Obj) (es : Array DictEntry) (ep : Nat) (ks : List (List Key × Addr × Value)), h.get? d = some o ∧ o.ExactDict ∧ o.data = .dict es ep ∧ es.size = kvs.length ∧
      ∀ (i : Nat) (k : List Key) (v : V), kvs[i]? = some (k, v) → ∃ (en : DictEntry) (q : Addr), es[i]? = some en ∧ en.key = .ref q ∧ H q = some (.tup (k.map kV)) ∧ RelV v en.val := by
  obtain ⟨z, hs, ks, pr, o, es, ep, ho, hx, hdt, he, hn⟩ := (show ObjOk P w H h d (.dT kvs) from hd.ok hok)
  have l1 : es.size = ks.length := size_of_entries he
  have l2 : kvs.length = ks.length := Paired.length pr
  refine ⟨z, hs, o, es, ep, ks, ho, hx, hdt, by omega, fun i k v e => ?_⟩
  obtain ⟨b, hb, e1, e2, e3⟩ := paired_get pr e
  have q := entry_at he i
  rw [hb] at q
  exact ⟨_, b.2.1, q, rfl, e2, e3⟩

/-! ### for (k, v) in d.items(), the dict locked -/
def ItiT (d : Addr) (o : Obj) (kvs : List (List Key × V)) : It :=
  ⟨fun i H => H d = some (.frz o (.dT kvs)) ∧ i < kvs.length, fun i H x H' => ∃ (T : Addr) (k : List Key) (v : V) (q : Addr), kvs[i]? = some (k, v) ∧ H q = some (.tup (k.map kV)) ∧ x = .ref T ∧ H T = none ∧ H' = upd H T (.tup [.ref q, v]), fun i H => H d = some (.frz o (.dT kvs)) ∧ kvs.length ≤ i⟩
section
variable {P : Program} {w : World} {K : PySem.W.Frag} {tg : Expr} {d : Addr} {o : Obj} {es : Array DictEntry} {ep : Nat}
theorem turn_itemsT {kvs : List (List Key × V)} {elts : List Expr} {kk : Nat} {tpos : Pos} (it : Addr) (hod : o.data = .dict es ep) (hsz : es.size = kvs.length) :
    Turn P w K (.Tuple elts kk tpos) (ItiT d o kvs) [it] it (fun i h => ∃ ok ov, IsItemIter h it d i es.size ep ok ov) where
  mem := by simp
  obj := fun i h st b hb => by
    have e : b = it := by simpa using hb
    subst e
    obtain ⟨ok, ov, e⟩ := st
    exact ⟨_, e, fun v z => nomatch z⟩
  keep := fun i h h' st k => let ⟨ok, ov, e⟩ := st; ⟨ok, ov, k it (by simp) _ e⟩
  item := by
    intro X hP hw hK hc i pins s σ H E I hf st hg
    subst hP hw hK
    obtain ⟨hd, hi⟩ := hg
    obtain ⟨z, hs, o', es', ep', ks, ho, hx, hdt, hsz', ent⟩ := dT_raw I.hok (.inr ⟨o, hd⟩ : Rd H d (.dT kvs))
    have ho2 : s.heap.get? d = some o := (I.hok d _ hd).1
    rw [ho2] at ho
    cases ho
    obtain ⟨rfl, rfl⟩ := dict_ep hod hdt
    obtain ⟨⟨k, v⟩, hkv⟩ : ∃ p, kvs[i]? = some p := ⟨kvs[i], List.getElem?_eq_getElem hi⟩
    obtain ⟨en, q, hen, hkey, hq, rv⟩ := ent i k v hkv
    have hie : i < es'.size := by omega
    have een : es'[i] = en := by
      have := Array.getElem?_eq_getElem hie
      rw [hen] at this
      exact (Option.some.inj this).symm
    obtain ⟨ok, ov, he⟩ := st
    have hlt : it < s.heap.objs.size := Heap.lt_size he
    refine PySem.wpAny_pyNext_items_item_raw he ⟨o, ho2, hx, hdt⟩ hie fun h' ho' hT hz hk => ?_
    rw [een] at ho' hT
    refine ⟨_, rfl, wpAny_letOwnedTupleGo_items (s := { s with heap := h' }) ho' fun h'' he' sb => ?_⟩
    have hT2 : h''.get? s.heap.objs.size = some { cls := .type "tuple", data := .seq #[en.key, en.val] } := (sb.2 _ (Nat.ne_of_gt hlt)).trans hT
    have new : ObjOk X.prog X.w (upd H s.heap.objs.size (.tup [.ref q, v])) h'' s.heap.objs.size (.tup [.ref q, v]) :=
      ⟨by show 2 ≤ sizeLine; decide, [en.key, en.val], .cons (by rw [hkey]; rfl) (.cons rv .nil), ⟨_, hT2, rfl, _, rfl⟩⟩
    have I1 : Inv X pins σ (upd H s.heap.objs.size (.tup [.ref q, v])) { s with heap := h'' } :=
      I.turnedNew (t' := s.toks) (ch := [it]) (fun b ob hb e => (sb.2 b (by simpa using hb)).trans (hk b ob (by simpa using hb) e)) hf (Nat.le_refl _) new
    refine ⟨.ref s.heap.objs.size, _, I1, rfl, ⟨_, k, v, q, hkv, hq, rfl, I.hok.fresh (Nat.le_refl _), rfl⟩, ⟨_, _, he'⟩, fun b hb => ?_⟩
    have e : b = it := by simpa using hb
    rw [e, upd_ne (Nat.ne_of_lt hlt)]
    exact (hf it (by simp)).1
  done := by
    intro X hP hw hK hc i pins s σ H E I hf st hg
    subst hP hw hK
    obtain ⟨hd, hi⟩ := hg
    obtain ⟨f0, f1, f2, f3, f4, f5⟩ := hf it (by simp)
    obtain ⟨z, hs, o', es', ep', ks, ho, hx, hdt, hsz', ent⟩ := dT_raw I.hok (.inr ⟨o, hd⟩ : Rd H d (.dT kvs))
    have ho2 : s.heap.get? d = some o := (I.hok d _ hd).1
    rw [ho2] at ho
    cases ho
    obtain ⟨rfl, rfl⟩ := dict_ep hod hdt
    obtain ⟨ok, ov, he⟩ := st
    exact PySem.wpAny_pyNext_items_end_raw (I.ok.hd hc) he ⟨o, ho2, hx, hdt⟩ (by omega) fun h' eb => ⟨rfl, I.turned (t' := s.toks) (fun b ob hb e => eb b ob hb e) f0 f1 f3 f4 f5⟩
  self := fun A i s Q E st h => let ⟨_, _, e⟩ := st; PySem.W.kcp_self e h
end
def iItemsT (td : TE) : TI := fun σ H R => td σ H fun x H1 => ∃ d o kvs, x = .ref d ∧ H1 d = some (.frz o (.dT kvs)) ∧ R (ItiT d o kvs) H1
section
variable {X : Cx} {tg e : Expr} {td : TE} {apos cpos : Pos}
theorem pi_itemsT {elts : List Expr} {kk : Nat} {tpos : Pos} (he : PE X e td) (hbase : attributeBase e "items" X.env (eval e X.env) = eval e X.env := by rfl) (hline : (apos.endLine == cpos.line) = true := by rfl) :
    PI X (.Tuple elts kk tpos) (.Call (.Attribute e "items" apos) [] [] cpos) (iItemsT td) := by
  refine ⟨fun pins s σ H R I h => ?_⟩
  refine wpAny_Call_method (T := "dict") (id := "dict.items") hbase rfl hline F.plainAttrs_dict F.slot_dict_items F.type_dict_items (thn (he.run pins s σ H _ I h) fun u s1 ⟨x, H1, I1, rx, d, o, kvs, ex, hd, q⟩ => ?_)
  subst ex
  obtain rfl : u = Value.ref d := rx
  obtain ⟨z, hs, o', es, ep, ks, ho, hx, hdt, hsz, ent⟩ := dT_raw I1.hok (.inr ⟨o, hd⟩ : Rd H1 d (.dT kvs))
  have ho2 : s1.heap.get? d = some o := (I1.hok d _ hd).1
  rw [ho2] at ho
  cases ho
  have raw : s1.heap.DictRaw d es ep := ⟨o, ho2, hx, hdt⟩
  refine ⟨raw.typeIs, fun o2 h2 => by cases h2; exact ⟨o, ho2, hx.2.1⟩, ?_⟩
  have I2 : Inv X pins σ H1 { s1 with heap := s1.heap.push { cls := .type "dict_items", data := .fields #[.ref d] } } := I1.kept (t' := s1.toks) fun b ob q => Heap.get?_push_of_some _ q
  have fin : wpAny (model X.prog X.w) X.A (pyIter (.ref s1.heap.objs.size)) (PIE X pins σ (.Tuple elts kk tpos) R) X.xe { s1 with heap := s1.heap.push { cls := .type "dict_items", data := .fields #[.ref d] } } := by
    refine PySem.wpAny_pyIter_items_raw (d := d) (es := es) (ep := ep) ⟨_, Heap.get?_push_size _ rfl, rfl, rfl⟩ (raw.push _) (pi_one (tk := s1.toks) I2 _ (turn_itemsT _ hdt hsz) ⟨.none, .none, ?_⟩ q)
    exact Heap.get?_push_size _ rfl
  show wpAny _ _ (callWith cpos (.builtin "dict.items") [.ref d] [] []) _ X.xe s1
  exact method_meetsIn F.slot_dict_items F.entry_dict_items rfl (PySem.evalArgs_none ⟨rfl, raw.typeIs, F.args_dict_items_1 _, _, PySem.meets_dict_items_raw d hs, ⟨es, ep, raw⟩, fin⟩)
end

/-! ### list(d.values()) -/
def tListValsT (te : TE) : TE := fun σ H Q => te σ H fun x H1 => ∃ d kvs, x = .ref d ∧ Rd H1 d (.dT kvs) ∧ ∀ p, H1 p = none → Q (.ref p) (upd H1 p (.lst (kvs.map (·.2))))
theorem vals_at : ∀ {vs : List V} {us : List Value}, vs.length = us.length → (∀ (i : Nat) (v : V), vs[i]? = some v → ∃ u, us[i]? = some u ∧ RelV v u) → Vals vs us
  | [], [], _, _ => .nil
  | [], _ :: _, h, _ => by cases h
  | _ :: _, [], h, _ => by cases h
  | v :: vs, u :: us, h, k => by
    obtain ⟨u', e, r⟩ := k 0 v rfl
    cases e
    exact .cons r (vals_at (Nat.succ.inj h) fun i v' e => k (i + 1) v' e)
section
variable {X : Cx} {e : Expr} {te : TE} {p apos cpos pos : Pos}
theorem pe_listValsT (hc : X.calm = true) (he : PE X e te) (hg : Gl X "list") (hm : X.mg "list" = none) (hv : bootBuiltins "list" = some (.type "list") := by decide +kernel) (hbase : attributeBase e "values" X.env (eval e X.env) = eval e X.env := by rfl) (hline : (apos.endLine == cpos.line) = true := by rfl)
    (hs : starEach [.Call (.Attribute e "values" apos) [] [] cpos] X.env = (false, eval (.Call (.Attribute e "values" apos) [] [] cpos) X.env) :: starEach [] X.env := by rfl) :
    PE X (.Call (.Name "list" p) [.Call (.Attribute e "values" apos) [] [] cpos] [] pos) (tListValsT te) := by
  refine ⟨fun pins s σ H Q I hq => ?_⟩
  refine wpAny_Call_Name_kw (ld_blt I hg hm hv ?_)
  refine PyProof.Rows.callWith_type1 ?_ hs rfl
  rw [hs]
  show wpAny _ _ (spliced ((false, eval (.Call (.Attribute e "values" apos) [] [] cpos) X.env) :: backTo pos (starEach [] X.env))) _ _ s
  refine Calls.spliced_cons ?_
  refine wpAny_Call_method (T := "dict") (id := "dict.values") hbase rfl hline F.plainAttrs_dict F.slot_dict_values F.type_dict_values (thn (he.run pins s σ H _ I hq) fun u s1 ⟨x, H1, I1, rx, d, kvs, ex, hd, q⟩ => ?_)
  subst ex
  obtain rfl : u = Value.ref d := rx
  obtain ⟨hz, hs0, o, es, ep, ks, ho, hx, hdt, hsz, ent⟩ := dT_raw I1.hok hd
  have raw : s1.heap.DictRaw d es ep := ⟨o, ho, hx, hdt⟩
  refine ⟨raw.typeIs, fun o2 h2 => by cases h2; exact ⟨o, ho, hx.2.1⟩, ?_⟩
  have I2 : Inv X pins σ H1 { s1 with heap := s1.heap.push { cls := .type "dict_values", data := .fields #[.ref d] } } := I1.kept (t' := s1.toks) fun b ob q => Heap.get?_push_of_some _ q
  show wpAny _ _ (callWith cpos (.builtin "dict.values") [.ref d] [] []) _ X.xe s1
  refine method_meetsIn F.slot_dict_values F.entry_dict_values rfl (PySem.evalArgs_none ⟨rfl, raw.typeIs, F.args_dict_values_1 _, _, PySem.meets_dict_values_raw d hs0, ⟨es, ep, raw⟩, ?_⟩)
  refine Calls.spliced_nil ?_
  refine PySem.W.kdl_call (PySem.KdlSrc.rawValues (r := s1.heap.objs.size) (d := d) (es := es) (ep := ep)) (I1.ok.hd hc) ⟨⟨_, Heap.get?_push_size _ rfl, rfl, rfl⟩, raw.push _⟩ (by omega) fun h' tk acc c hk hS hacc => ?_
  refine ⟨.ref _, _, I2.laid (t' := tk) (o := .lst (kvs.map (·.2))) hk (Nat.le_refl _) ⟨by rw [List.length_map]; omega, acc.toList, c, ?_, ?_⟩, rfl, ?_⟩
  · refine vals_at ?_ fun i v e => ?_
    · rw [List.length_map]
      have h1 := hacc.1
      rw [← Array.length_toList] at h1
      omega
    · rw [List.getElem?_map] at e
      cases e1 : kvs[i]? with
      | none =>
        rw [e1] at e
        cases e
      | some kv =>
        rw [e1] at e
        have ev : kv.2 = v := Option.some.inj e
        subst ev
        obtain ⟨en, qa, hen, _, _, rv⟩ := ent i kv.1 kv.2 e1
        have hi : i < acc.toList.length := by
          have := (List.getElem?_eq_some_iff.mp e1).1
          have h1 := hacc.1
          rw [← Array.length_toList] at h1
          omega
        refine ⟨acc.toList[i], List.getElem?_eq_getElem hi, ?_⟩
        obtain ⟨hi2, h2⟩ := hacc.2 i acc.toList[i] (by rw [← Array.getElem?_toList]; exact List.getElem?_eq_getElem hi)
        rw [h2]
        have een : es[i] = en := by
          have := Array.getElem?_eq_getElem hi2
          rw [hen] at this
          exact (Option.some.inj this).symm
        rw [een]
        exact rv
  · rw [Array.toArray_toList]
    exact hS
  · exact q _ (I2.hok.fresh (Nat.le_refl _))
end
end Ov

set_option Elab.async false
set_option linter.all false
set_option maxRecDepth 100000
set_option maxHeartbeats 4000000
namespace Ov
open PySem PySem.Spec PyProof.Rows L2

/-! ### enumerate(text) -/
def IteS (x : Str) : It := ⟨fun i _ => i < x.cps.size, fun i H v H' => ∃ T c, v = .ref T ∧ H T = none ∧ x.cps[i]? = some c ∧ H' = upd H T (.tup [.int (i : Nat), .str ⟨#[c]⟩]), fun i _ => x.cps.size ≤ i⟩
theorem turn_enumS {P : Program} {w : World} {K : PySem.W.Frag} {elts : List Expr} {kk : Nat} {tpos : Pos} (x : Str) (t : Tok) (e it : Addr) :
    Turn P w K (.Tuple elts kk tpos) (IteS x) [e, it] e (fun i h => i ≤ x.cps.size ∧ (∃ old, IsEnum h e it ((i : Nat) : Int) old) ∧ h.IsStrIter it (strIterType x) x t i ∧ e ≠ it) where
  mem := by simp
  obj := fun i h st b hb => by
    obtain ⟨_, ⟨old, he⟩, ⟨o, ho, hc, hd⟩, _⟩ := st
    have e' : b = e ∨ b = it := by simpa using hb
    rcases e' with z | z
    · rw [z]; exact ⟨_, he, fun v q => nomatch q⟩
    · rw [z]; exact ⟨o, ho, fun v q => by rw [hd] at q; cases q⟩
  keep := fun i h h' st k => let ⟨hi0, ⟨old, he⟩, ⟨o, ho, r⟩, hne⟩ := st; ⟨hi0, ⟨old, k e (by simp) _ he⟩, ⟨o, k it (by simp) o ho, r⟩, hne⟩
  item := by
    intro X hP hw hK hc i pins s σ H E I hf st hg
    subst hP hw hK
    obtain ⟨_, ⟨old, he⟩, hit, hne⟩ := st
    have hi : i < x.cps.size := hg
    have hel : e < s.heap.objs.size := Heap.lt_size he
    have hil : it < s.heap.objs.size := by obtain ⟨_, q, _⟩ := hit; exact Heap.lt_size q
    have D := Draws.text (prog := X.prog) (w := X.w) (A := X.A.in1) (I.ok.hd hc) it x t
    refine wpAny_pyNext_enum_itemD D he hit hi hne (by simpa using hne) fun u h' tk hP ho hit' hT hsz hk => ?_
    obtain ⟨c, tu, hcx, rfl⟩ := hP
    refine ⟨_, rfl, wpAny_letOwnedTupleGo_enum (s := { s with heap := h', toks := tk + 1 }) ho fun h'' he' sb => ?_⟩
    have hT2 : h''.get? s.heap.objs.size = some { cls := .type "tuple", data := .seq #[.int i tk, .str ⟨#[c]⟩ tu] } := (sb.2 _ (Nat.ne_of_gt hel)).trans hT
    have new : ObjOk X.prog X.w (upd H s.heap.objs.size (.tup [.int (i : Nat), .str ⟨#[c]⟩])) h'' s.heap.objs.size (.tup [.int (i : Nat), .str ⟨#[c]⟩]) :=
      ⟨by show 2 ≤ sizeLine; decide, [.int i tk, .str ⟨#[c]⟩ tu], .cons ⟨_, rfl⟩ (.cons ⟨_, rfl⟩ .nil), ⟨_, hT2, rfl, _, rfl⟩⟩
    have I1 : Inv X pins σ (upd H s.heap.objs.size (.tup [.int (i : Nat), .str ⟨#[c]⟩])) { s with heap := h'', toks := tk + 1 } :=
      I.turnedNew (ch := [e, it]) (fun b ob hb q => (sb.2 b (fun z => hb (by simp [z]))).trans (hk b ob (fun z => hb (by simp [z])) (fun z => hb (by simp [z])) q)) hf (Nat.le_refl _) new
    refine ⟨.ref s.heap.objs.size, _, I1, rfl, ⟨_, c, rfl, I.hok.fresh (Nat.le_refl _), hcx, rfl⟩, ⟨hi, ⟨.str ⟨#[c]⟩ tu, ?_⟩, ?_, hne⟩, fun b hb => ?_⟩
    · have e1 : ((i + 1 : Nat) : Int) = (i : Int) + 1 := by omega
      rw [e1]; exact he'
    · obtain ⟨oo, h1, h2⟩ := hit'
      exact ⟨oo, (sb.2 it (Ne.symm hne)).trans h1, h2⟩
    · have hb' : b < s.heap.objs.size := by
        have e' : b = e ∨ b = it := by simpa using hb
        rcases e' with z | z
        · rw [z]; exact hel
        · rw [z]; exact hil
      rw [upd_ne (Nat.ne_of_lt hb')]
      exact (hf b hb).1
  done := by
    intro X hP hw hK hc i pins s σ H E I hf st hg
    subst hP hw hK
    obtain ⟨hle, ⟨old, he⟩, hit, hne⟩ := st
    have hge : x.cps.size ≤ i := hg
    have ei : i = x.cps.size := Nat.le_antisymm hle hge
    subst ei
    obtain ⟨f0, f1, f2, f3, f4, f5⟩ := hf it (by simp)
    have D := Draws.text (prog := X.prog) (w := X.w) (A := X.A.in1) (I.ok.hd hc) it x t
    exact wpAny_pyNext_enum_endD D he hit fun h' eb => ⟨rfl, I.turned (t' := s.toks) (fun b o hb q => eb b o hb q) f0 f1 f3 f4 f5⟩
  self := fun A i s Q E st h => let ⟨_, ⟨_, he⟩, _⟩ := st; wpAny_pyIter_enum he h
def iEnumS (ta : TA) : TI := fun σ H R => ta σ H fun vs H1 => ∃ x, vs = [.str x] ∧ R (IteS x) H1
theorem pi_enumS {X : Cx} {e : Expr} {ta : TA} {p pos tpos : Pos} {elts : List Expr} {kk : Nat} (hg : Gl X "enumerate") (hm : X.mg "enumerate" = none) (ha : PA X [e] ta) (hs : starEach [e] X.env = [(false, eval e X.env)] := by rfl) :
    PI X (.Tuple elts kk tpos) (.Call (.Name "enumerate" p) [e] [] pos) (iEnumS ta) := by
  refine ⟨fun pins s σ H R I h => ?_⟩
  refine Call_ (ld_blt I hg hm boot_enumerate (PyProof.Rows.callWith_type1 (thn (ha.run pos pins s σ H _ I h) fun us s1 ⟨vs, H1, I1, r1, q1⟩ => ?_) hs rfl))
  obtain ⟨x, ex, q⟩ := q1
  subst ex
  cases r1 with
  | cons r rr =>
    cases rr
    obtain ⟨t, rfl⟩ := r
    refine call_enumerate_str fun h' he hit hsz hk => wpAny_pyIter_enum he ?_
    have I2 : Inv X pins σ H1 { s1 with heap := h' } := I1.kept (t' := s1.toks) hk
    refine ⟨s1.heap.objs.size + 1, [s1.heap.objs.size + 1, s1.heap.objs.size], _, _, H1, rfl, I2, turn_enumS x t (s1.heap.objs.size + 1) s1.heap.objs.size, ⟨Nat.zero_le _, ⟨.none, he⟩, hit, Nat.succ_ne_self _⟩, fun b hb => ?_, q⟩
    have e' : b = s1.heap.objs.size + 1 ∨ b = s1.heap.objs.size := by simpa using hb
    have hle : s1.heap.objs.size ≤ b := by
      rcases e' with z | z
      · rw [z]; exact Nat.le_add_right _ _
      · rw [z]; exact Nat.le_refl _
    exact I1.fpOk hle (I1.hok.fresh hle)
theorem walk_enumS {x : Str} : Walk (IteS x) x.cps.size (fun _ => True) (fun i H v H' => ∃ T c, v = .ref T ∧ H T = none ∧ x.cps[i]? = some c ∧ H' = upd H T (.tup [.int (i : Nat), .str ⟨#[c]⟩])) :=
  ⟨fun _ _ hi _ => hi, fun _ _ => Nat.le_refl _, fun _ _ _ _ _ _ y => y⟩

/-! ### Stamps(*words): a class called with a starred list -/
section
variable {X : Cx} {CX : CXT} {k : Nat} {f C : Addr} {sp : Sp} {E : XK} {x : Str} {e : Expr} {te : TE} {p sp_ pos : Pos}
def tMakeS1 (K : PySem.W.Frag) (C : Addr) (sp : Sp) (E : XK) (te : TE) : TE := fun σ H Q => te σ H fun y H1 => ∃ a xs, y = V.ref a ∧ (SqT K H1 a xs ∨ SqL K H1 a xs) ∧
  ∀ x dx, H1 x = Option.none → H1 dx = Option.none → dx ≠ x → sp (V.ref x :: xs) (upd (upd H1 dx (.own x)) x (.ins C dx [])) (fun v H2 => v = .non ∧ Q (.ref x) H2) E
theorem pe_makeS1 (M : Mk X.K C f) (F : FnR X.prog X.w X.K X.mg X.base CX k f sp) (hr : Room (k + 1) X.A) (hg : Gl X x) (hm : X.mg x = some (.ref C)) (hx : Passes CX X E) (he : PE X e te) (hd : (x == ("__debug__" : Str)) = false := by decide)
    (hst : starEach [.Starred e sp_] X.env = [(true, eval e X.env)] := by rfl) :
    PE X (.Call (.Name x p) [.Starred e sp_] [] pos) (tMakeS1 X.K C sp E te) := by
  refine ⟨fun pins s σ H Q I h => ?_⟩
  refine wpAny_Call_Name_kw (ld_glob I hg hm ?_ hd)
  refine PySem.W.callWith_S (h₀ := X.base) I.ok.mod.kin M.kp (thn (he.run pins s σ H _ I h) fun v s1 ⟨y, H1, I1, ry, a, xs, ey, hxs, q⟩ => ?_) hst
  subst ey
  obtain rfl : v = Value.ref a := ry
  exact StX.star_any I1 hxs fun us s2 I2 rv => ⟨I2.kIn, StX.run_makeR M F hr hx I2 rv q⟩
end

/-! ### {k: v for ..}, the keys tuples -/
theorem d_dictSetT {X : Cx} {pins : List (Addr × Obj)} {σ : L2.St} {H : Hp} {s : Shared} {E : Value → Shared → Prop} {D b : Addr} {kvs : List (List Key × V)} {k : List Key} {v : V} {r : Value} {Q : Unit → Shared → Prop} (hu : X.A.units < cLine) (I : Inv X pins σ H s) (hD : H D = some (.dT kvs)) (hz : kvs.length < sizeLine)
    (eb : H b = some (.tup (k.map kV))) (rv : RelV v r) (h : ∀ s', Inv X pins σ (upd H D (.dT (putK kvs k v))) s' → Q () s') : wpAny (model X.prog X.w) X.A (dictSet D (.ref b) r) Q E s := by
  obtain ⟨z, hd, xs, rel, dd⟩ := dt_of I.hok hD
  have hzx : xs.length ≤ sizeLine := by rw [← Paired.length rel]; exact z
  have hl : (putK kvs k v).length ≤ sizeLine := by have := length_putK kvs k v; omega
  refine wpAny_dictSet_heap (hsz := hzx) (show (tupleKind (mixKind X.prog X.w)).room X.A from hu) (key_of I.hok eb) dd fun h' dd' hs => h _ ?_
  obtain ⟨q, es, ep, hq, h2, h3, h4, _, h5⟩ := dd'
  refine d_write I (by rw [hD]; exact True.intro) hs ⟨q, hq⟩ ⟨hl, hd, _, (rel.put k eb rv).keeps fun c ys ec => ?_, q, es, ep, hq, h2, h3, h4, h5⟩
  rw [upd_ne (ne_of ec hD (fun z => nomatch z))]
  exact ec
section
variable {X : Cx}
def tDcT (wi : TI) (g : TG) (tt : TT) (tk tv : TE) (vs : List Nat) : TE := fun σ H Q => wi σ H fun J H1 => ∀ D, H1 D = none → ∃ W : Nat → Nat → Hp → Prop, (∃ m, W 0 m (upd H1 D (.dT []))) ∧ ∀ i m H, W i m H →
  (J.stop i H ∧ Q (.ref D) H) ∨ (J.go i H ∧ ∃ Nx : Hp → Prop, (∀ H', Nx H' → ∃ m', m' < m ∧ W (i + 1) m' H') ∧ ∀ x H', J.yld i H x H' → g x (wipe σ vs) H' fun σ2 H2 => wipe σ2 vs = wipe σ vs ∧ tt σ2 H2 fun b H3 =>
    if b = true then tk σ2 H3 fun y H4 => tv σ2 H4 fun z H5 => ∃ kvs k b, y = .ref b ∧ H5 b = some (.tup (k.map kV)) ∧ H5 D = some (.dT kvs) ∧ kvs.length < sizeLine ∧ Nx (upd H5 D (.dT (putK kvs k z))) else Nx H3)
theorem dcT_core {pins : List (Addr × Obj)} {s : Shared} {σ : L2.St} {H : Hp} {Q : VK} {kx vx tg iter : Expr} {ifs : List Expr} {scope : Scope} {own : List (Str × Nat)} {pos pos' : Pos} {wi : TI} {g : TG} {tt : TT} {tk tv : TE} {use : Option (Value → Sem Unit)} {Qf : Value → Shared → Prop}
    (hu : X.A.units < cLine) (hc : X.calm = true) (hN : X.N.Nodup) (I : Inv X pins σ H s) (hi : PI X tg iter wi) (ok : BlkOk X.N X.env.scope scope own)
    (hg : ∀ (s : Shared) (H : Hp) (C : Addr) (cl : List (Str × Addr)) (fp : List Addr), PG (X.blk s H scope (compEnvC scope cl C X.env) fp) tg g) (ht : ∀ (s : Shared) (H : Hp) (C : Addr) (cl : List (Str × Addr)) (fp : List Addr), PTs (X.blk s H scope (compEnvC scope cl C X.env) fp) ifs tt)
    (hk : ∀ (s : Shared) (H : Hp) (C : Addr) (cl : List (Str × Addr)) (fp : List Addr), PE (X.blk s H scope (compEnvC scope cl C X.env) fp) kx tk)
    (he : ∀ (s : Shared) (H : Hp) (C : Addr) (cl : List (Str × Addr)) (fp : List Addr), PE (X.blk s H scope (compEnvC scope cl C X.env) fp) vx tv) (hs : ∀ x, foldedSetIterable iter X.env x = pure x)
    (h : tDcT wi g tt tk tv (own.map (·.2)) σ H Q)
    (hRR : ∀ D C s' m H', Inv X pins σ H' s' → Q (.ref D) H' → s'.heap.Ns C m → FpOk X pins H' C → compPost (model X.prog X.w) X.A X.xe use Qf (.ref D) C (.ok .next) s') :
    wpAny (model X.prog X.w) X.A (comprehension (.DictComp kx vx [⟨tg, iter, ifs, 0⟩] scope pos) scope X.env pos' newDict false (eval iter X.env) use) Qf X.xe s := by
  have hfree : ∀ y ∈ scope.names, y.2 = .free → ∃ c, X.env.cells.lookup y.1 = some c := fun y hy e => by
    rcases ok.free y hy e with k | k
    · exact I.ok.has _ (.inl k)
    · exact I.ok.has _ (.inr k)
  refine wpAny_comprehension_free (use := use) rfl hs (closure_ok hfree) ok.kind (fun y hy e => by rw [ok.uniq y hy, e])
    (thn (hi.run pins s σ H _ I h) fun xv s1 hx => thn hx fun itv s2 h2 => ?_)
  obtain ⟨it, fp, tn, J, H2, e, I2, T, st2, f2, q⟩ := h2
  subst e
  refine wpAny_newObj_type (newEnv_comp ?_)
  generalize hD : s2.heap.objs.size = D
  have hDn : H2 D = none := I2.hok.fresh (Nat.le_of_eq hD)
  obtain ⟨W, ⟨m0, w0⟩, turn⟩ := q D hDn
  generalize hs3 : ({ s2 with heap := s2.heap.push { cls := .type "dict", data := .dict #[] } } : Shared) = s3
  have I3 : Inv X pins σ (upd H2 D (.dT [])) s3 := by
    rw [← hs3]
    refine I2.laid (t' := s2.toks) (fun b o e => Heap.get?_push_of_some _ e) (Nat.le_of_eq hD) ?_
    rw [← hD]
    exact dt_empty s2.heap I2.big
  have h3 : s3.heap = s2.heap.push { cls := .type "dict", data := .dict #[] } := by rw [← hs3]
  have sz : ∀ b ∈ fp, b < s2.heap.objs.size := fun b hb => by
    obtain ⟨o, e, _⟩ := T.obj _ _ st2 b hb
    exact Heap.lt_size e
  have f3 : ∀ b ∈ fp, FpOk X pins (upd H2 D (.dT [])) b ∧ b < s3.heap.objs.size := fun b hb => by
    have hlt := sz b hb
    refine ⟨⟨?_, (f2 b hb).2⟩, by rw [h3, Heap.size_push]; exact Nat.lt_succ_of_lt hlt⟩
    rw [upd_ne (by rw [← hD]; exact Nat.ne_of_lt hlt)]
    exact (f2 b hb).1
  have st3 : tn 0 s3.heap := T.keep _ _ _ st2 fun b _ o e => by rw [h3]; exact Heap.get?_push_of_some _ e
  have I4 := block_start I3 ok hN f3
  have pg := hg s3 (upd H2 D (.dT [])) s3.heap.objs.size (cellsFrom (s3.heap.objs.size + 1) scope.names (cloFrom X.env.cells scope.names [])) fp
  have pt := ht s3 (upd H2 D (.dT [])) s3.heap.objs.size (cellsFrom (s3.heap.objs.size + 1) scope.names (cloFrom X.env.cells scope.names [])) fp
  have pk := hk s3 (upd H2 D (.dT [])) s3.heap.objs.size (cellsFrom (s3.heap.objs.size + 1) scope.names (cloFrom X.env.cells scope.names [])) fp
  have pe := he s3 (upd H2 D (.dT [])) s3.heap.objs.size (cellsFrom (s3.heap.objs.size + 1) scope.names (cloFrom X.env.cells scope.names [])) fp
  show codeAny _ _ (.compStart (.DictComp kx vx [⟨tg, iter, ifs, 0⟩] scope pos) 0 (.ref it) (.ref D) (compEnvC scope (cellsFrom (s3.heap.objs.size + 1) scope.names (cloFrom X.env.cells scope.names [])) s3.heap.objs.size X.env)) (compPost (model X.prog X.w) X.A X.xe use Qf (.ref D) s3.heap.objs.size) { s3 with heap := pushCells (s3.heap.push { cls := .type "dict", data := .dict #[] }) scope.names }
  have nfp : ∀ b ∈ fp, (upd H2 D (.dT [])) b = none := fun b hb => (f3 b hb).1.1
  generalize hce : compEnvC scope (cellsFrom (s3.heap.objs.size + 1) scope.names (cloFrom X.env.cells scope.names [])) s3.heap.objs.size X.env = ce at I4 pg pt pk pe ⊢
  have cL : ce.locals = s3.heap.objs.size := by subst hce; rfl
  generalize hH3 : upd H2 D (.dT []) = H3 at I3 I4 pg pt pk pe w0 nfp f3
  generalize hs4 : ({ s3 with heap := pushCells (s3.heap.push { cls := .type "dict", data := .dict #[] }) scope.names } : Shared) = s4 at I4 ⊢
  have st4 : tn 0 s4.heap := T.keep _ _ _ st3 fun b _ o e => by rw [← hs4]; exact pushCells_keeps _ _ _ _ (Heap.get?_push_of_some _ e)
  have stat : ∀ {σ' : L2.St} {H' : Hp} {s' : Shared}, Inv (X.blk s3 H3 scope ce fp) [] σ' H' s' → (∀ b ∈ fp, H' b = none) → ∀ b ∈ fp, FpOk (X.blk s3 H3 scope ce fp) [] H' b := fun {σ' H' s'} I' hn b hb =>
    ⟨hn b hb, (I'.ok.exf b hb).1, I'.ok.exfs b hb, .inl hb, fun x c e => (I'.ok.exf b hb).2 x c e, fun p hp => absurd (show p ∈ ([] : List (Addr × Obj)) ++ [] from hp) (by simp)⟩
  have loop : codeAny (model X.prog X.w) X.A (.compLoop (.DictComp kx vx [⟨tg, iter, ifs, 0⟩] scope pos) 0 (.ref it) (.ref D) ce) (compPost (model X.prog X.w) X.A X.xe use Qf (.ref D) s3.heap.objs.size) s4 := by
    refine compLoop_anyD (fun n s' => ∃ i H', Inv (X.blk s3 H3 scope ce fp) [] (wipe σ (own.map (·.2))) H' s' ∧ tn i s'.heap ∧ (∀ b ∈ fp, H' b = none) ∧ W i n H') ?_ m0 ⟨0, H3, I4, st4, nfp, w0⟩
    rintro n s5 ⟨i, H5, I5, st5, n5, w5⟩
    rcases turn i n H5 w5 with ⟨stop, qq⟩ | ⟨go, Nx, hNx, step⟩
    · have td := T.done (X.blk s3 H3 scope ce fp) rfl rfl rfl hc i [] s5 _ H5 (fun _ _ => False) I5 (stat I5 n5) st5 stop
      refine thnF td fun r s6 ⟨hr, I6⟩ => ?_
      subst hr
      have I7 : Inv X pins σ H5 s6 := I3.call' (ch := fp) I6.os I6.base I6.hok I6.bare fun b hb => ⟨(f3 b hb).1.2.2.2.1, (f3 b hb).1.2.1, (f3 b hb).1.2.2.2.2.1, (f3 b hb).1.2.2.2.2.2⟩
      have nC : H5 s3.heap.objs.size = none := by
        have z : H5 ce.locals = none := I6.free
        rw [cL] at z
        exact z
      obtain ⟨m, hn, _⟩ := I6.loc
      have hn : s6.heap.Ns ce.locals m := hn
      rw [cL] at hn
      exact hRR D s3.heap.objs.size s6 m H5 I7 qq hn (I3.fpOk (Nat.le_refl _) nC)
    · have ti := T.item (X.blk s3 H3 scope ce fp) rfl rfl rfl hc i [] s5 _ H5 (fun _ _ => False) I5 (stat I5 n5) st5 go
      refine thnF ti fun r s6 ⟨u, hr, h6⟩ => ?_
      subst hr
      refine thnF h6 fun _ s7 ⟨x, H7, I7, r7, y7, st7, n7⟩ => ?_
      have I7' := I7.pinned (stat I7 n7) (T.obj _ _ st7)
      refine thnF (pg.run _ s7 _ H7 x u _ I7' r7 (step x H7 y7)) fun _ s8 ⟨σ8, H8, I8, hw8, q8⟩ => ?_
      refine thnF (pt.run _ s8 σ8 H8 _ I8 q8) fun b s9 ⟨H9, I9, q9⟩ => ?_
      have fin : ∀ {s' : Shared} {H' : Hp}, Inv (X.blk s3 H3 scope ce fp) ([] ++ pinsAt fp s7.heap) σ8 H' s' → Nx H' → ∃ m, m < n ∧ ∃ i H', Inv (X.blk s3 H3 scope ce fp) [] (wipe σ (own.map (·.2))) H' s' ∧ tn i s'.heap ∧ (∀ b ∈ fp, H' b = none) ∧ W i m H' := fun {s' H'} I' nx => by
        obtain ⟨m', hm, w'⟩ := hNx H' nx
        have pin' : ∀ b ∈ fp, ∀ o, s7.heap.get? b = some o → s'.heap.get? b = some o ∧ H' b = none := fun b hb o e =>
          let z := I'.pin (b, o) (List.mem_append_right _ (List.mem_append_right _ (mem_pinsAt hb e)))
          ⟨z.1, z.2.1⟩
        have hl : (wipe σ (own.map (·.2))).length = σ8.length := by rw [← hw8, wipe_length]
        refine ⟨m', hm, i + 1, H', (I'.unpinned (pins := [])).weak hl (fun j v e => ?_), T.keep _ _ _ st7 fun b hb o e => (pin' b hb o e).1, fun b hb => ?_, w'⟩
        · rw [← hw8] at e
          exact (wipe_some e).1
        · obtain ⟨o, e, _⟩ := T.obj _ _ st7 b hb
          exact (pin' b hb o e).2
      cases b with
      | false =>
        simp only [Bool.false_eq_true, if_false] at q9 ⊢
        exact fin I9 q9
      | true =>
        simp only [if_true] at q9 ⊢
        refine thnF (pk.run _ s9 σ8 H9 _ I9 q9) fun z s10 ⟨yk, H10, I10, r10, q10⟩ => ?_
        refine thnF (pe.run _ s10 σ8 H10 _ I10 q10) fun z2 s11 ⟨yv, H11, I11, r11, kvs, k, bk, ek, hbk, hD11, hz11, nx⟩ => ?_
        subst ek
        obtain rfl : z = Value.ref bk := r10
        exact d_dictSetT (X := X.blk s3 H3 scope ce fp) hu I11 hD11 hz11 hbk r11 fun s12 I12 => fin I12 nx
  exact codeAny_compStart_dict loop (T.self X.A 0 _ _ _ st4 loop)
theorem pe_dcT {kx vx tg iter : Expr} {ifs : List Expr} {scope : Scope} {own : List (Str × Nat)} {pos : Pos} {wi : TI} {g : TG} {tt : TT} {tk tv : TE} (hu : X.A.units < cLine) (hc : X.calm = true) (hN : X.N.Nodup) (hi : PI X tg iter wi) (ok : BlkOk X.N X.env.scope scope own)
    (hg : ∀ (s : Shared) (H : Hp) (C : Addr) (cl : List (Str × Addr)) (fp : List Addr), PG (X.blk s H scope (compEnvC scope cl C X.env) fp) tg g) (ht : ∀ (s : Shared) (H : Hp) (C : Addr) (cl : List (Str × Addr)) (fp : List Addr), PTs (X.blk s H scope (compEnvC scope cl C X.env) fp) ifs tt)
    (hk : ∀ (s : Shared) (H : Hp) (C : Addr) (cl : List (Str × Addr)) (fp : List Addr), PE (X.blk s H scope (compEnvC scope cl C X.env) fp) kx tk)
    (he : ∀ (s : Shared) (H : Hp) (C : Addr) (cl : List (Str × Addr)) (fp : List Addr), PE (X.blk s H scope (compEnvC scope cl C X.env) fp) vx tv) (hs : ∀ x, foldedSetIterable iter X.env x = pure x := by intro _; rfl) :
    PE X (.DictComp kx vx [⟨tg, iter, ifs, 0⟩] scope pos) (tDcT wi g tt tk tv (own.map (·.2))) := by
  refine ⟨fun pins s σ H Q I h => ?_⟩
  rw [arm_eval_DictComp]
  refine dcT_core hu hc hN I hi ok hg ht hk he hs h fun D C s' m H' I' q hn f => ⟨m, hn, fun h'' sb => ?_⟩
  obtain ⟨f0, f1, f2, f3, f4, f5⟩ := f
  exact ⟨.ref D, H', I'.turned (t' := s'.toks) (fun b o hb e => (sb.2 b hb).trans e) f0 f1 f3 f4 f5, rfl, q⟩
end
end Ov

set_option Elab.async false
set_option linter.all false
set_option maxRecDepth 100000
set_option maxHeartbeats 4000000
namespace Ov
open PySem PySem.Spec PyProof.Rows L2

/-! ### a dict from pairs of ints to values -/
abbrev IK := Int × Int
def kT (k : IK) : List Key := [Sum.inl k.1, Sum.inl k.2]
def encT (m : List (IK × V)) : List (List Key × V) := m.map fun e => (kT e.1, e.2)
theorem kT_inj {a b : IK} (h : kT a = kT b) : a = b := by
  unfold kT at h
  simp only [List.cons.injEq, Sum.inl.injEq, and_true] at h
  exact Prod.ext h.1 h.2
theorem kT_map (k : IK) : (kT k).map kV = [V.int k.1, V.int k.2] := rfl

/-- a permutation of the images is the image of a permutation -/
theorem perm_lift {α β : Type} {f : α → β} : ∀ {xs ys : List β}, xs.Perm ys → ∀ l : List α, l.map f = xs → ∃ l' : List α, l'.map f = ys ∧ l'.Perm l := by
  intro xs ys h
  induction h with
  | nil => exact fun l e => ⟨l, e, .refl _⟩
  | @cons x xs ys _ ih =>
    intro l e
    cases l with
    | nil => cases e
    | cons a l =>
      injection e with e1 e2
      obtain ⟨l', h1, h2⟩ := ih l e2
      exact ⟨a :: l', by rw [List.map_cons, e1, h1], h2.cons a⟩
  | swap x y xs =>
    intro l e
    cases l with
    | nil => cases e
    | cons a l =>
      cases l with
      | nil => simp at e
      | cons b l =>
        simp only [List.map_cons, List.cons.injEq] at e
        obtain ⟨e1, e2, e3⟩ := e
        exact ⟨b :: a :: l, by simp [e1, e2, e3], .swap ..⟩
  | trans _ _ ih1 ih2 =>
    intro l e
    obtain ⟨l1, h1, h2⟩ := ih1 l e
    obtain ⟨l2, h3, h4⟩ := ih2 l1 h1
    exact ⟨l2, h3, h4.trans h2⟩

/-- the addresses of the keys -/
def KeysAt (H : Hp) (ks : List IK) (qs : List Addr) : Prop := Paired (fun k q => H q = some (.tup [V.int k.1, V.int k.2])) ks qs
theorem paired_map {α β γ : Type} {F : α → γ → Prop} {G : β → γ → Prop} {f : α → β} (h : ∀ a c, G (f a) c → F a c) : ∀ {xs : List α} {zs : List γ}, Paired G (xs.map f) zs → Paired F xs zs
  | [], _, .nil => .nil
  | _ :: _, _, .cons r t => .cons (h _ _ r) (paired_map h t)
theorem paired_zip {α β : Type} {F : α → β → Prop} : ∀ {xs : List α} {ys : List β}, Paired F xs ys → ∃ l : List (α × β), l.map (·.1) = xs ∧ l.map (·.2) = ys ∧ ∀ p ∈ l, F p.1 p.2
  | _, _, .nil => ⟨[], rfl, rfl, fun p h => absurd h (by simp)⟩
  | x :: xs, y :: ys, .cons r t => by
    obtain ⟨l, h1, h2, h3⟩ := paired_zip t
    exact ⟨(x, y) :: l, by rw [List.map_cons, h1], by rw [List.map_cons, h2], fun p hp => by
      rcases List.mem_cons.mp hp with e | hp
      · rw [e]; exact r
      · exact h3 p hp⟩
theorem paired_of {α β : Type} {F : α → β → Prop} : ∀ l : List (α × β), (∀ p ∈ l, F p.1 p.2) → Paired F (l.map (·.1)) (l.map (·.2))
  | [], _ => .nil
  | p :: l, h => .cons (h p List.mem_cons_self) (paired_of l fun q hq => h q (List.mem_cons_of_mem _ hq))

/-! ### sorted(d), d a dict from pairs of small ints -/
def lexLe (a b : IK) : Prop := a.1 < b.1 ∨ a.1 = b.1 ∧ a.2 ≤ b.2
def small (k : IK) : Prop := 0 ≤ k.1 ∧ k.1 < 64 ∧ 0 ≤ k.2 ∧ k.2 < 64
theorem lex_of_code {a b : IK} (ha : small a) (hb : small b) (h : TS.code 64 [a.1, a.2] ≤ TS.code 64 [b.1, b.2]) : lexLe a b := by
  rw [code_pair, code_pair] at h
  obtain ⟨h1, h2, h3, h4⟩ := ha
  obtain ⟨k1, k2, k3, k4⟩ := hb
  unfold lexLe
  omega
theorem bd_pair {a : IK} (ha : small a) : TS.Bd 64 [a.1, a.2] := by
  obtain ⟨h1, h2, h3, h4⟩ := ha
  intro x hx
  simp only [List.mem_cons, List.not_mem_nil, or_false] at hx
  rcases hx with e | e
  · subst e; exact ⟨h1, h2⟩
  · subst e; exact ⟨h3, h4⟩
def rSortDT : List V → Hp → VK → Prop := fun vs H Q => ∃ (d : Addr) (m : List (IK × V)), vs = [V.ref d] ∧ Rd H d (.dT (encT m)) ∧ m.length < 64 ∧ (∀ e ∈ m, small e.1) ∧
  ∀ (ks : List IK) (qs : List Addr) (p : Addr), ks.Perm (m.map (·.1)) → ks.Pairwise lexLe → KeysAt H ks qs → H p = none → Q (.ref p) (upd H p (.lst (qs.map V.ref)))
section
variable {X : Cx}
theorem keys_at {pins : List (Addr × Obj)} {σ : L2.St} {H : Hp} {s : Shared} {k : IK} {q : Addr} (I : Inv X pins σ H s) (h : H q = some (.tup [V.int k.1, V.int k.2])) : TS.TupInts s.heap (.ref q) [k.1, k.2] :=
  tupI_raw (ns := [k.1, k.2]) I (.inl (.inl h))
theorem cr_sortDT (hc : X.calm = true) : CallR X (.builtin "sorted") rSortDT := by
  intro pins s σ H vs us Q I r h
  obtain ⟨d, m, rfl, hd, h64, hsm, q⟩ := h
  rw [Vals.ref1 r]
  obtain ⟨z, hs0, o, es, ep, ks0, ho, hx, hdt, hsz, ent⟩ := dT_raw I.hok hd
  have hml : (encT m).length = m.length := by unfold encT; rw [List.length_map]
  refine Calls.call_function_entry kind_sorted plain_sorted entry_sorted (args_sorted1 _) ?_
  unfold Builtin.«sorted»
  refine wpAny_bind (m := checkCount "sorted" 1 1 _) (wpAny_pure ?_)
  refine wpAny_bind (PySem.W.kdu_collect (A := X.A.in1) (kdl_raw hs0 hx hdt) (I.ok.hd hc) ho (by omega) fun h' tk acc hk hacc => ?_)
  -- the keys' addresses
  have hlen : acc.toList.length = m.length := by
    have h1 := hacc.1
    rw [← Array.length_toList] at h1
    omega
  have hat : ∀ (i : Nat) (k : IK), (m.map (·.1))[i]? = some k → ∃ qa, acc.toList[i]? = some (Value.ref qa) ∧ H qa = some (.tup [V.int k.1, V.int k.2]) := fun i k e => by
    rw [List.getElem?_map] at e
    cases e1 : m[i]? with
    | none => rw [e1] at e; cases e
    | some kv =>
      rw [e1] at e
      have e2 : kv.1 = k := Option.some.inj e
      subst e2
      have e3 : (encT m)[i]? = some (kT kv.1, kv.2) := by unfold encT; rw [List.getElem?_map, e1]; rfl
      obtain ⟨en, qa, hen, hkey, hq, _⟩ := ent i _ _ e3
      have hi : i < acc.toList.length := by
        have := (List.getElem?_eq_some_iff.mp e1).1
        omega
      obtain ⟨en2, h2, h3⟩ := hacc.2 i acc.toList[i] (by rw [← Array.getElem?_toList]; exact List.getElem?_eq_getElem hi)
      rw [hen] at h2
      cases h2
      exact ⟨qa, by rw [List.getElem?_eq_getElem hi, h3, hkey], hq⟩
  obtain ⟨L, hL1, hL2, hL3⟩ : ∃ L : List (IK × Addr), L.map (·.1) = m.map (·.1) ∧ acc.toList = L.map (fun p => Value.ref p.2) ∧ ∀ p ∈ L, H p.2 = some (.tup [V.int p.1.1, V.int p.1.2]) := by
    have gen : ∀ (ks : List IK) (us : List Value), us.length = ks.length → (∀ (i : Nat) (k : IK), ks[i]? = some k → ∃ qa, us[i]? = some (Value.ref qa) ∧ H qa = some (.tup [V.int k.1, V.int k.2])) →
        ∃ L : List (IK × Addr), L.map (·.1) = ks ∧ us = L.map (fun p => Value.ref p.2) ∧ ∀ p ∈ L, H p.2 = some (.tup [V.int p.1.1, V.int p.1.2]) := by
      intro ks
      induction ks with
      | nil =>
        intro us hl _
        exact ⟨[], rfl, List.length_eq_zero_iff.mp hl, fun p hp => absurd hp (by simp)⟩
      | cons k ks ih =>
        intro us hl f
        cases us with
        | nil => cases hl
        | cons u us =>
          obtain ⟨qa, e1, e2⟩ := f 0 k rfl
          cases e1
          obtain ⟨L, g1, g2, g3⟩ := ih us (Nat.succ.inj hl) fun i k' e => f (i + 1) k' e
          exact ⟨(k, qa) :: L, by rw [List.map_cons, g1], by rw [List.map_cons, ← g2], fun p hp => by
            rcases List.mem_cons.mp hp with e | hp
            · rw [e]; exact e2
            · exact g3 p hp⟩
    exact gen _ _ (by rw [List.length_map]; exact hlen) hat
  have I1 : Inv X pins σ H { s with heap := h', toks := tk } := I.kept (t' := tk) hk
  refine wpAny_bind (wpAny_newList ?_ (by rw [hlen, sizeLine_eq]; omega))
  rw [hL2]
  have hoL : (h'.push (seqObj "list" (L.map fun p => Value.ref p.2).toArray 0)).get? h'.objs.size = some (seqObj "list" (L.map fun p => Value.ref p.2).toArray 0) := Heap.get?_push_size _ rfl
  have kp : ∀ b u, h'.get? b = some u → (h'.push (seqObj "list" (L.map fun p => Value.ref p.2).toArray 0)).get? b = some u := fun b u e => Heap.get?_push_of_some _ e
  have sm : ∀ p ∈ L, small p.1 := fun p hp => by
    have h1 : p.1 ∈ m.map (·.1) := by rw [← hL1]; exact List.mem_map.mpr ⟨p, hp, rfl⟩
    obtain ⟨e, he, h2⟩ := List.mem_map.mp h1
    rw [← h2]
    exact hsm e he
  have ti : ∀ p ∈ L, TS.TupInts (h'.push (seqObj "list" (L.map fun p => Value.ref p.2).toArray 0)) (.ref p.2) [p.1.1, p.1.2] := fun p hp => (keys_at I1 (hL3 p hp)).keeps fun b u e _ => kp b u e
  show wpAny _ _ _ _ _ { s with heap := h'.push (seqObj "list" (L.map fun p => Value.ref p.2).toArray 0), toks := tk }
  refine wpAny_bind (wpAny_holding (TS.call_sort_tups (d := 2) (B := 64) (vs := L.map fun p => Value.ref p.2) hoL ?_ (by decide) ?_ fun out h1 h2 => ?_))
  · rw [List.length_map, ← List.length_map (f := (·.1)), hL1, List.length_map]; exact h64
  · intro v hv
    obtain ⟨p, hp, rfl⟩ := List.mem_map.mp hv
    exact ⟨[p.1.1, p.1.2], ti p hp, rfl, bd_pair (sm p hp)⟩
  · refine wpAny_pure ⟨_, rfl, ?_⟩
    obtain ⟨L', e1, e2⟩ := perm_lift h1.symm L rfl
    obtain ⟨c, hc2⟩ := sortedHeap_at (vs := L.map fun p => Value.ref p.2) (out := out) hoL
    have kA : KeysAt H (L'.map fun p => p.1) (L'.map fun p => p.2) := paired_of L' fun p hp => hL3 p (e2.mem_iff.mp hp)
    have hn : H h'.objs.size = none := I1.hok.fresh (Nat.le_refl _)
    have rv : Vals ((L'.map (·.2)).map V.ref) out.toList := by
      rw [← e1, List.map_map]
      have g : ∀ l : List (IK × Addr), Vals (l.map ((fun q => V.ref q) ∘ (·.2))) (l.map fun p => Value.ref p.2) := fun l => by
        induction l with
        | nil => exact .nil
        | cons p l ih => exact .cons rfl ih
      exact g L'
    have hl2 : ((L'.map (·.2)).map V.ref).length ≤ sizeLine := by
      rw [List.length_map, List.length_map, e2.length_eq, ← List.length_map (f := (·.1)), hL1, List.length_map, sizeLine_eq]
      omega
    refine ⟨.ref h'.objs.size, upd H h'.objs.size (.lst ((L'.map (·.2)).map V.ref)), ?_, rfl, q (L'.map fun p => p.1) (L'.map fun p => p.2) _ ?_ ?_ kA hn⟩
    · refine I1.laid (t' := tk) (fun b u e => ?_) (Nat.le_refl _) ⟨hl2, out.toList, c, rv, hc2⟩
      have hlt := Heap.lt_size e
      show (sortedHeap (h'.push (seqObj "list" (L.map fun p => Value.ref p.2).toArray 0)) h'.objs.size (L.map fun p => Value.ref p.2) out).get? b = some u
      rw [sortedHeap_old (Nat.ne_of_lt hlt) (by rw [size_push']; exact Nat.lt_succ_of_lt hlt)]
      exact kp b u e
    · rw [← hL1]
      exact e2.map _
    · rw [List.pairwise_map]
      rw [← e1] at h2
      refine List.Pairwise.imp_of_mem (fun {a b} ha hb hab => ?_) (List.pairwise_map.mp h2)
      have f1 := (ti a (e2.mem_iff.mp ha)).ints
      have f2 := (ti b (e2.mem_iff.mp hb)).ints
      rw [show TS.intsOf _ (Value.ref a.2) = _ from f1, show TS.intsOf _ (Value.ref b.2) = _ from f2] at hab
      exact lex_of_code (sm a (e2.mem_iff.mp ha)) (sm b (e2.mem_iff.mp hb)) hab
end
end Ov

set_option Elab.async false
set_option linter.all false
set_option maxRecDepth 100000
set_option maxHeartbeats 4000000
namespace Ov
open PySem PySem.Spec PyProof.Rows L2 He

/-! ### facts of classes -/
section
variable {K : PySem.W.Frag} {C : Addr} {f m : Str}
/-- the getter of a property -/
def gp (K : PySem.W.Frag) (C : Addr) (f : Str) : Addr := match PySem.W.recIn K (ma K C f) "property" with
  | some (.ref g :: _) => g
  | _ => 0
def propB (K : PySem.W.Frag) (C : Addr) (f : Str) : Bool := eqO (PySem.W.findIn K (.ref C) f) (some (some (.ref (ma K C f)))) && (eqO (PySem.W.specialIn K (.ref (ma K C f)) "__get__") (some (some (.builtin "property.__get__"))) &&
  (decide (PySem.W.takesIn K (.ref (ma K C f)) = some true) && (match PySem.W.recIn K (ma K C f) "property" with
    | some (.ref _ :: _) => true
    | _ => false)))
theorem propB_ok (h : propB K C f = true) : PropOf K C f (ma K C f) (gp K C f) := by
  obtain ⟨h1, h⟩ := ba h
  obtain ⟨h2, h⟩ := ba h
  obtain ⟨h3, h4⟩ := ba h
  refine ⟨eqO_ok h1, eqO_ok h2, of_decide_eq_true h3, ?_⟩
  unfold gp
  split at h4
  · rename_i g r e
    exact ⟨r, by rw [e]⟩
  · cases h4
def creadB (K : PySem.W.Frag) (C : Addr) : Bool := PySem.W.readsIn K C (.type "type")
theorem creadB_ok (h : creadB K C = true) : ClX.CRead K C (.type "type") := by
  refine ⟨h, ?_⟩
  have h : PySem.W.readsIn K C (.type "type") = true := h
  unfold PySem.W.readsIn at h
  obtain ⟨h, _⟩ := ba h
  obtain ⟨h, _⟩ := ba h
  obtain ⟨h, h3⟩ := ba h
  obtain ⟨_, h2⟩ := ba h
  unfold PySem.W.specialIn
  rw [beq_iff_eq.mp h2, Option.bind_some]
  exact beq_iff_eq.mp h3
def cvalB (K : PySem.W.Frag) (C : Addr) (f : Str) (v : Dv) : Bool := match PySem.W.findCls K (.ref C) (.type "type") f with
  | some (.val u) => relB (v.v K) u
  | _ => false
theorem cvalB_ok {v : Dv} (h : cvalB K C f v = true) : ∃ u, ClX.CVal K C (.type "type") f (v.v K) u := by
  unfold cvalB at h
  split at h
  · rename_i u e
    exact ⟨u, e, relB_ok h⟩
  · cases h
def cmB (K : PySem.W.Frag) (C : Addr) (m : Str) : Bool := He5.wrapB K C "classmethod" "classmethod.__get__" m && PySem.W.fnIn K (He5.wf K C "classmethod" m)
theorem cmB_ok (h : cmB K C m = true) : ClX.CMet K C (.type "type") m (ma K C m) (He5.wf K C "classmethod" m) := by
  obtain ⟨h1, h2⟩ := ba h
  exact He5.cmet_of h1 h2
end

/-! ### the head's Hook: facts, defs, and one more Bool -/
abbrev AlO : Type := AlD × Bool
def obsO (fa : List Fa) (fn : List He5.DefA) (ex : PySem.W.Frag → Bool) (K : PySem.W.Frag) : AlO := (He5.obsA fa fn K, ex K)
def valO (fn : List He5.DefA) : AlO := (He5.valA fn, true)
def obsOG (n : Nat) (fa : List Fa) (fn : List He5.DefA) (ex : PySem.W.Frag → Bool) (g : Addr → Option Obj) : AlO := obsO fa fn ex (frG g (He5.asA g n))
def SaysO (fa : List Fa) (fn : List He5.DefA) (ex : PySem.W.Frag → Bool) (K : PySem.W.Frag) : Prop := obsO fa fn ex K = valO fn
def hookO (n : Nat) (fa : List Fa) (fn : List He5.DefA) (ex : PySem.W.Frag → Bool) : PySem.W.Hook where
  α := AlO
  obs := fun s => obsOG n fa fn ex s.heap.get?
  val := fun _ => valO fn
  says := fun _ h => ∃ K : PySem.W.Frag, K.In h ∧ SaysO fa fn ex K
  of := fun _ _ e => ⟨_, frG_in, e⟩
  keeps := fun _ _ _ ⟨K, hK, c⟩ k => ⟨K, PySem.W.Frag.In.keeps hK k, c⟩
theorem obsOG_eq {n : Nat} {fa : List Fa} {fn : List He5.DefA} {ex : PySem.W.Frag → Bool} {g : Addr → Option Obj} {s : Shared} (h : ∀ a, g a = s.heap.get? a) : obsOG n fa fn ex g = (hookO n fa fn ex).obs s := by
  have e : g = s.heap.get? := funext h
  rw [e] <;> rfl
section
variable {fa : List Fa} {fn : List He5.DefA} {ex : PySem.W.Frag → Bool} {K : PySem.W.Frag}
theorem SaysO.a (c : SaysO fa fn ex K) : He5.SaysA fa fn K := congrArg (fun z : AlO => z.1) c
theorem SaysO.more (c : SaysO fa fn ex K) : ex K = true := congrArg (fun z : AlO => z.2) c
theorem SaysO.facts (c : SaysO fa fn ex K) {f : Fa} (h : f ∈ fa) : f.ok K = true := by
  obtain ⟨i, hi, e⟩ := List.mem_iff_getElem.mp h
  exact He5.SaysA.fact c.a i (f := f) (by rw [List.getElem?_eq_getElem hi, e])
end

/-! ### the law's end, for a law that shows data by repr -/
theorem law_callG {P : Program} {w : World} {K : PySem.W.Frag} {mg mb : Str → Option Value} {CX : CXT} {k : Nat} {fa a : Addr} {fd : FuncData} {x : Str} {sp : Sp} {s₁ : Shared} {vs : List Value} {ns : List Int}
    (KX : K.In s₁.heap) (hns : s₁.heap.Ns mainGlobals mg) (hb : s₁.heap.Ns builtinsNs mb) (hbb : ∀ x : Str, x ≠ "__name__" → mb x = bootBuiltins x) (hlim : s₁.heap.NoLimit) (hg : s₁.gens = #[])
    (ha : s₁.heap.get? a = some { cls := .type "list", data := .seq vs.toArray }) (hi : IntsAre vs ns) (hl : ns.length ≤ sizeLine) (hr : Room k callerA)
    (F : ∀ base : Heap, K.In base → base.Ns mainGlobals mg → FnG P w K mg base CX k fa fd [x] sp) (hbind : ∀ (s : Shared) (u : Value), BindsTo s fd ⟨[u], []⟩ [(x, u)])
    (hsp : ∀ H : Hp, Only H → SqL K H a (ns.map V.int) → sp [.ref a] H (fun v _ => v = .bl true) fun _ _ _ => False)
    (hCX : ∀ H e s', CX [] H s₁ (fun _ _ _ => False) e s' → False) :
    codeAny (model P w) callerA (.call (.ref fa) ⟨[.ref a], []⟩) (fun r s' => r = .ok (.ret (.bool true)) ∧ OldK s₁.heap s'.heap ∧ s'.os = s₁.os ∧ AllBare s'.gens) s₁ := by
  have rv := vals_ints hi
  have lenV := hi.length
  have core : ∀ H : Hp, Only H → SqL K H a (ns.map V.int) → HOk P w H s₁.heap → (∀ b, H b ≠ none → b = a) → (H a ≠ none → K.lookup a = none) →
      codeAny (model P w) callerA (.call (.ref fa) ⟨[.ref a], []⟩) (fun r s' => r = .ok (.ret (.bool true)) ∧ OldK s₁.heap s'.heap ∧ s'.os = s₁.os ∧ AllBare s'.gens) s₁ := by
    intro H hO hS hok hA hK
    have noA : ∀ {b : Addr} {o : Obj} {es : Array DictEntry} {ep : Nat}, s₁.heap.get? b = some o → o.data = .dict es ep → H b = none := fun {b o es ep} e d => by
      cases q : H b with
      | none => rfl
      | some u =>
        have e' : b = a := hA b (by rw [q]; simp)
        subst e'
        rw [ha] at e; cases e
        have d' : Data.seq vs.toArray _ = Data.dict es ep := d
        cases d'
    have nsK : ∀ {b : Addr} {m : Str → Option Value}, s₁.heap.Ns b m → (hidT s₁.heap H).Ns b m := fun {b m} ⟨o, es, ep, e, d, r⟩ => ⟨o, es, ep, hidT_get e (noA e d), d, r⟩
    have hKb : K.In (hidT s₁.heap H) := fun b o e => hidT_get (KX b o e) (by
      cases q : H b with
      | none => rfl
      | some u =>
        have e' : b = a := hA b (by rw [q]; simp)
        subst e'
        rw [hK (by rw [q]; simp)] at e; cases e)
    have hM : Mod K mg (hidT s₁.heap H) := ⟨hKb, nsK hns, ⟨mb, nsK hb, hbb⟩, let ⟨mc, h1, h2⟩ := hlim; ⟨mc, nsK h1, h2⟩⟩
    have e0 : Env0 P w K mg (hidT s₁.heap H) callerA [] s₁ H := ⟨rfl, hM, fun b o e => of_hidT e, Nat.le_of_eq (hidT_size _ _), trivial, fun b hb => absurd (show b ∈ ([] : List Addr) from hb) (by simp), hok, .of_eq hg⟩
    refine codeAny_mono ((F _ hKb (nsK hns)).run callerA [] s₁ H ⟨[.ref a], []⟩ [.ref a] [.ref a] _ _ rfl hr e0 (hbind s₁ (.ref a)) (.cons rfl .nil) (hsp H hO hS)) fun r s' h => ?_
    cases r with
    | error e => exact (hCX H e s' h).elim
    | ok fl =>
      cases fl with
      | next => exact False.elim h
      | brk => exact False.elim h
      | cont => exact False.elim h
      | ret u =>
        obtain ⟨v, H', os, bare, un, hok', r', q⟩ := h
        have q' : v = .bl true := q
        subst q'
        obtain rfl : u = Value.bool true := r'
        refine ⟨rfl, OldK.of_keep fun b o e => ?_, os, bare⟩
        cases q : H b with
        | none => exact un.keep b o e q (by intro z; exact absurd (show b ∈ ([] : List Addr) from z) (by simp)) (by simp)
        | some u =>
          rcases hO b with z | ⟨ob, xs, z⟩
          · rw [q] at z; cases z
          · have z2 := un.frzs b ob _ z
            obtain ⟨e1, _⟩ := hok b _ z
            obtain ⟨e2, _⟩ := hok' b _ z2
            rw [e] at e1; cases e1
            exact e2
  cases hk : K.lookup a with
  | some o =>
    have e := KX a o hk
    rw [ha] at e
    cases e
    refine core (fun _ => none) (fun _ => .inl rfl) (.inr ⟨_, vs.toArray, _, hk, rfl, rfl, rfl, by rw [List.size_toArray, lenV]; exact hl, by simpa using rv⟩) (fun b u z => by have z' : (none : Option HO) = some u := z; cases z') (fun b z => absurd rfl z) fun z => absurd rfl z
  | none =>
    refine core (fun b => if b = a then some (.frz { cls := .type "list", data := .seq vs.toArray } (.lst (ns.map V.int))) else none) (fun b => ?_) (.inl (.inr ⟨{ cls := .type "list", data := .seq vs.toArray }, if_pos rfl⟩)) (fun b u z => ?_) (fun b z => ?_) fun _ => hk
    · by_cases hb : b = a
      · exact .inr ⟨_, _, if_pos hb⟩
      · exact .inl (if_neg hb)
    · by_cases hb : b = a
      · have z' := (if_pos hb).symm.trans z
        cases z'
        subst hb
        exact ⟨ha, by rw [List.length_map]; exact hl, vs, _, rv, ha⟩
      · have z' := (if_neg hb).symm.trans z
        cases z'
    · by_cases hb : b = a
      · exact hb
      · exact absurd (if_neg hb) z
theorem walk_ofEG {l : PySem.W.OpenLaw} {n k : Nat} {q : Program} {loose : List Str} {XP : (Str → Option Value) → Heap → Prop} {YP : World → Heap → Prop} {d : DefRec} {CX : CXT} {x : Str}
    (hn : l.most = some n) (hn2 : n ≤ sizeLine) (hdf : d.params.defaults = []) (hr : Room k callerA)
    (F : ∀ (w : World) (mg : Str → Option Value) (fa : Addr) (h : Heap), YP w h → h.Ns mainGlobals mg → mg d.name = some (.ref fa) →
      ∃ (K : PySem.W.Frag) (fd : FuncData) (sp : Sp), K.In h ∧ (∀ (s : Shared) (u : Value), BindsTo s fd ⟨[u], []⟩ [(x, u)]) ∧
        (∀ (H : Hp) (a : Addr) (ns : List Int), ns.length ≤ n → Only H → SqL K H a (ns.map V.int) → sp [.ref a] H (fun v _ => v = .bl true) fun _ _ _ => False) ∧
        ∀ base : Heap, K.In base → base.Ns mainGlobals mg → FnG l.prog w K mg base CX k fa fd [x] sp)
    (hCX : ∀ (H : Hp) (s : Shared) (e : Value) (s' : Shared), CX [] H s (fun _ _ _ => False) e s' → False) :
    PySem.W.WalkO q loose XP YP l.row.toRowW d [] (fun f vs => PySem.call f vs) := by
  refine Att.attach_call hn hdf fun w s₀ s₁ mg mb fa o pm cd doc a vs ns G Y ho hd hcd hmg hobj hints hlen hg => ?_
  obtain ⟨K, fd, sp, KX, hb, hsp, hF⟩ := F w mg fa _ Y G.T.g hmg
  exact law_callG KX G.T.g G.T.b G.T.builtins G.T.nolimit hg hobj hints (Nat.le_trans hlen hn2) hr hF hb (fun H hO hS => hsp H a ns hlen hO hS) fun H e s' => hCX H s₁ e s'
end Ov

set_option Elab.async false
set_option linter.all false
set_option maxRecDepth 100000
set_option maxHeartbeats 4000000
namespace Ov
open PySem PySem.Spec PyProof.Rows L2 He

/-! ### defs, ready to be called -/
abbrev FunX (K : PySem.W.Frag) (x qual : Str) (st : Stmt) (f : Addr) : Prop := ∃ fd, Fun K x qual st f fd
/-- its arguments bind, nothing left out -/
abbrev BindsX (x qual : Str) (st : Stmt) (ps : List Str) : Prop := ∀ (kV doc pm : Value) (an : Option Addr) (cdv ct : Value) (us : List Value), us.length = ps.length → bindArgs (PySem.W.fnOf x qual (defArgs st) (defBody st) (defScope st) .none kV doc pm an cdv ct) ⟨us, []⟩ = pure (ps.zip us)
section
variable (P : Program) (w : World) (K : PySem.W.Frag) (mg : Str → Option Value) (base : Heap) (CX : CXT) (k : Nat)
/-- a promise kept by the def at f -/
def Kept (f : Addr) (ps : List Str) (sp : Sp) : Prop := ∃ fd, FnOk P w K mg base CX k f fd ps sp ∧ Binds K fd ps []
def KeptG (f : Addr) (ps : List Str) (sp : Sp) : Prop := ∃ fd, FnG P w K mg base CX k f fd ps sp ∧ Binds K fd ps []
structure CallC (x : Str) (ps : List Str) (sp : Sp) : Prop where
  ok : Kept P w K mg base CX k (ga K x) ps sp
  g : mg x = some (.ref (ga K x))
  kp : PySem.W.keepIn K (.ref (ga K x)) = true
structure CallG (x : Str) (ps : List Str) (sp : Sp) : Prop where
  ok : KeptG P w K mg base CX k (ga K x) ps sp
  g : mg x = some (.ref (ga K x))
  kp : PySem.W.keepIn K (.ref (ga K x)) = true
structure MethC (C : Addr) (m : Str) (ps : List Str) (sp : Sp) : Prop where
  ok : Kept P w K mg base CX k (ma K C m) ps sp
  me : Meth K C m (ma K C m)
structure PropC (C : Addr) (f : Str) (sp : Sp) : Prop where
  ok : Kept P w K mg base CX k (gp K C f) ["self"] sp
  pr : PropOf K C f (ma K C f) (gp K C f)
structure MakeC (x : Str) (C : Addr) (ps : List Str) (sp : Sp) : Prop where
  ok : Kept P w K mg base CX k (ma K C "__init__") ps sp
  made : Mk K C (ma K C "__init__")
  g : mg x = some (.ref C)
end
section
variable {P : Program} {w : World} {K : PySem.W.Frag} {mg : Str → Option Value} {base : Heap} {k : Nat}
theorem kept_of {x qual : Str} {st : Stmt} {f : Addr} {N ps : List Str} {sp : Sp} (F : FunX K x qual st f) (S : FnScope N ps (defScope st)) (b : BindsX x qual st ps) (len : ∀ vs H Q E, sp vs H Q E → vs.length = ps.length)
    (hbody : ∀ (cdv : Value) (A : Around) (outer : List Env) (s : Shared) (H : Hp) (vs : List V) (Q : VK) (E : XK), Room k (A.deeper (envOfC qual (defScope st) s.heap.objs.size f cdv)) → sp vs H Q E →
      ∃ t, PSs (cxOf CX0 P w K mg base N qual (defScope st) f cdv A outer s H E).nox (defBody st) t ∧ t { nx := fun _ H' => Q .non H', rt := Q } (start N vs) H) : Kept P w K mg base CX0 (k + 1) f ps sp := by
  obtain ⟨fd, F⟩ := F
  exact ⟨fd, F.ok S len hbody, F.binds b⟩
theorem keptG_of {x qual : Str} {st : Stmt} {f : Addr} {N ps : List Str} {sp : Sp} (F : FunX K x qual st f) (S : FnScope N ps (defScope st)) (b : BindsX x qual st ps) (len : ∀ vs H Q E, sp vs H Q E → vs.length = ps.length)
    (hbody : ∀ (cdv : Value) (A : Around) (outer : List Env) (s : Shared) (H : Hp) (vs : List V) (Q : VK) (E : XK), A.guards = some [] → Room k (A.deeper (envOfC qual (defScope st) s.heap.objs.size f cdv)) → sp vs H Q E →
      ∃ t, PSs (cxOf CX0 P w K mg base N qual (defScope st) f cdv A outer s H E).nox (defBody st) t ∧ t { nx := fun _ H' => Q .non H', rt := Q } (start N vs) H) : KeptG P w K mg base CX0 (k + 1) f ps sp := by
  obtain ⟨fd, F⟩ := F
  exact ⟨fd, okG F S len hbody, F.binds b⟩
theorem Kept.toG {f : Addr} {CX : CXT} {ps : List Str} {sp : Sp} (h : Kept P w K mg base CX k f ps sp) : KeptG P w K mg base CX k f ps sp := let ⟨fd, F, b⟩ := h; ⟨fd, .of F, b⟩
theorem Kept.mono {f : Addr} {CX : CXT} {j : Nat} {ps : List Str} {sp : Sp} (h : Kept P w K mg base CX j f ps sp) (l : j ≤ k) : Kept P w K mg base CX k f ps sp := let ⟨fd, F, b⟩ := h; ⟨fd, F.mono l, b⟩
theorem CallC.toG {x : Str} {CX : CXT} {ps : List Str} {sp : Sp} (h : CallC P w K mg base CX k x ps sp) : CallG P w K mg base CX k x ps sp := ⟨h.ok.toG, h.g, h.kp⟩
end
section
variable {X : Cx} {CX : CXT} {k : Nat} {C : Addr} {ps : List Str} {sp : Sp} {E : XK} {x m f : Str} {p pos apos : Pos} {e o : Expr} {es : List Expr} {ta : TE} {t : TA}
theorem pe_callC (c : CallC X.prog X.w X.K X.mg X.base CX k x ps sp) (hr : Room k X.A) (hg : Gl X x) (hx : Passes CX X E) (ha : PA X (e :: es) t) (hdb : (x == ("__debug__" : Str)) = false := by decide)
    (he : starEach (e :: es) X.env = (false, eval e X.env) :: starEach es X.env := by rfl) (hpl : (backTo pos (starEach es X.env)).any (·.1) = false := by rfl) : PE X (.Call (.Name x p) (e :: es) [] pos) (tCall sp [] E t) := by
  obtain ⟨fd, F, b⟩ := c.ok
  exact pe_call F hr hg c.g c.kp b .nil hx ha hdb he hpl
theorem pe_callC0 (c : CallC X.prog X.w X.K X.mg X.base CX k x ps sp) (hr : Room k X.A) (hg : Gl X x) (hx : Passes CX X E) (hdb : (x == ("__debug__" : Str)) = false := by decide) : PE X (.Call (.Name x p) [] [] pos) (tCall sp [] E tNil) := by
  obtain ⟨fd, F, b⟩ := c.ok
  exact pe_call0 F hr hg c.g c.kp b .nil hx hdb
theorem pe_callCG (c : CallG X.prog X.w X.K X.mg X.base CX k x ps sp) (hgu : X.A.guards = some []) (hr : Room k X.A) (hg : Gl X x) (hx : Passes CX X E) (ha : PA X (e :: es) t) (hdb : (x == ("__debug__" : Str)) = false := by decide)
    (he : starEach (e :: es) X.env = (false, eval e X.env) :: starEach es X.env := by rfl) (hpl : (backTo pos (starEach es X.env)).any (·.1) = false := by rfl) : PE X (.Call (.Name x p) (e :: es) [] pos) (tCall sp [] E t) := by
  obtain ⟨fd, F, b⟩ := c.ok
  refine ⟨fun pins s σ H Q I h => ?_⟩
  refine wpAny_Call_Name_kw (ld_glob I hg c.g ?_ hdb)
  refine PySem.W.callWith_K (h₀ := X.base) I.ok.mod.kin c.kp (thn (ha.run pos pins s σ H _ I h) fun us s1 ⟨vs, H1, I1, r, q⟩ => ⟨I1.kIn, ?_⟩) he hpl
  exact run_fnG F hgu hr b .nil hx I1 r q
theorem pe_methC {pl : Sem Bool} (he : PE X o ta) (c : Cls X.K C) (h : MethC X.prog X.w X.K X.mg X.base CX k C m ps sp) (hr : Room k X.A) (hx : Passes CX X E) (ha : PA X (e :: es) t)
    (hst : starEach (e :: es) X.env = (false, eval e X.env) :: starEach es X.env := by rfl) (hpl : (backTo pos (starEach es X.env)).any (·.1) = false := by rfl)
    (ht : eval (.Call (.Attribute o m apos) (e :: es) [] pos) X.env = (do
      let ov ← eval o X.env
      standAt apos.atName
      let (f, first) ← holding [ov] (getMethod ov m pl)
      callWith pos f first (backTo pos (starEach (e :: es) X.env)) (backToKw pos (keywordEach [] X.env))) := by rfl) : PE X (.Call (.Attribute o m apos) (e :: es) [] pos) (tMeth C m sp [] E ta t) := by
  obtain ⟨fd, F, b⟩ := h.ok
  exact pe_meth he c h.me F hr b .nil hx ha hst hpl ht
theorem pe_methC0 {pl : Sem Bool} (he : PE X o ta) (c : Cls X.K C) (h : MethC X.prog X.w X.K X.mg X.base CX k C m ps sp) (hr : Room k X.A) (hx : Passes CX X E)
    (ht : eval (.Call (.Attribute o m apos) [] [] pos) X.env = (do
      let ov ← eval o X.env
      standAt apos.atName
      let (f, first) ← holding [ov] (getMethod ov m pl)
      callWith pos f first (backTo pos (starEach [] X.env)) (backToKw pos (keywordEach [] X.env))) := by rfl) : PE X (.Call (.Attribute o m apos) [] [] pos) (tMeth C m sp [] E ta tNil) := by
  obtain ⟨fd, F, b⟩ := h.ok
  exact pe_meth0 he c h.me F hr b .nil hx ht
theorem pe_propC (he : PE X e ta) (c : Cls X.K C) (h : PropC X.prog X.w X.K X.mg X.base CX k C f sp) (hr : Room (k + 1) X.A) (hx : Passes CX X.nox E) (hab : attributeBase e f X.env (eval e X.env) = eval e X.env := by rfl) : PE X (.Attribute e f pos) (tProp C sp [] E ta) := by
  obtain ⟨fd, F, b⟩ := h.ok
  exact pe_prop he c h.pr F hr b .nil hx hab
theorem pe_makeC (h : MakeC X.prog X.w X.K X.mg X.base CX k x C ps sp) (hr : Room (k + 1) X.A) (hg : Gl X x) (hx : Passes CX X E) (ha : PA X (e :: es) t) (hdb : (x == ("__debug__" : Str)) = false := by decide)
    (he : starEach (e :: es) X.env = (false, eval e X.env) :: starEach es X.env := by rfl) (hpl : (backTo pos (starEach es X.env)).any (·.1) = false := by rfl) : PE X (.Call (.Name x p) (e :: es) [] pos) (tMake C sp [] E t) := by
  obtain ⟨fd, F, b⟩ := h.ok
  exact pe_make h.made F hr hg h.g b .nil hx ha hdb he hpl
end
/-! constants of the module -/
section
variable {X : Cx} {x : Str} {pos : Pos}
theorem pe_gint {i : Int} (hg : Gl X x) (h : ∃ t, X.mg x = some (.int i t)) (hd : (x == ("__debug__" : Str)) = false := by decide) : PE X (.Name x pos) (tC (.int i)) := by
  obtain ⟨t, h⟩ := h
  exact pe_glob hg h ⟨t, rfl⟩ hd
theorem pe_gstr {z : Str} (hg : Gl X x) (h : ∃ t, X.mg x = some (.str z t)) (hd : (x == ("__debug__" : Str)) = false := by decide) : PE X (.Name x pos) (tC (.str z)) := by
  obtain ⟨t, h⟩ := h
  exact pe_glob hg h ⟨t, rfl⟩ hd
/-- a builtin type as a value -/
theorem pe_bty {n : String} (hg : Gl X x) (hm : X.mg x = none) (hv : bootBuiltins x = some (.type n) := by decide +kernel) (hn : x ≠ "__name__" := by decide) (hd : (x == ("__debug__" : Str)) = false := by decide) : PE X (.Name x pos) (tC (.ty n)) :=
  pe_bltn hg hm hv rfl hn hd
end

/-! ### heaps that grow -/
theorem same_upd {H : Hp} {p : Addr} {o : HO} (h : H p = none) : Same H (upd H p o) := fun b x e => by
  rw [upd_ne (ne_of_none e h)]
  exact e
/-- all but what stands at a is as it was -/
def SameBut (a : Addr) (H H' : Hp) : Prop := ∀ b o, b ≠ a → H b = some o → H' b = some o
theorem SameBut.refl (a : Addr) (H : Hp) : SameBut a H H := fun _ _ _ h => h
theorem SameBut.trans {a : Addr} {H H1 H2 : Hp} (x : SameBut a H H1) (y : SameBut a H1 H2) : SameBut a H H2 := fun b o n h => y b o n (x b o n h)
theorem Same.but {a : Addr} {H H' : Hp} (x : Same H H') : SameBut a H H' := fun b o _ h => x b o h
theorem SameBut.upd {a : Addr} {H : Hp} {o : HO} : SameBut a H (upd H a o) := fun b x n h => by rw [upd_ne n]; exact h
/-- what H does not know may change -/
theorem SameBut.same {a : Addr} {H H1 H2 : Hp} (x : Same H H1) (h : H a = none) (y : SameBut a H1 H2) : Same H H2 := fun b o e => y b o (ne_of_none e h) (x b o e)
theorem Same.seqT {K : PySem.W.Frag} {H H' : Hp} {a : Addr} {xs : List V} (e : Same H H') (h : SqT K H a xs) : SqT K H' a xs := by
  rcases h with (h | ⟨o, h⟩) | h
  · exact .inl (.inl (e _ _ h))
  · exact .inl (.inr ⟨o, e _ _ h⟩)
  · exact .inr h
theorem upd_none {H : Hp} {p a : Addr} {o : HO} (h : upd H p o a = none) : H a = none ∧ a ≠ p := by
  by_cases e : a = p
  · rw [e, upd_same] at h
    cases h
  · rw [upd_ne e] at h
    exact ⟨h, e⟩
/-! data stays -/
mutual
theorem dp_same {K : PySem.W.Frag} {H H' : Hp} (e : Same H H') : ∀ {v : V} {d : PyData}, Dp K H v d → Dp K H' v d
  | _, _, .non => .non
  | _, _, .bl b => .bl b
  | _, _, .int i => .int i
  | _, _, .str x => .str x
  | _, _, .lst h t => .lst (e.seq h) (dpAll_same e t)
  | _, _, .tup h t => .tup (Same.seqT e h) (dpAll_same e t)
theorem dpAll_same {K : PySem.W.Frag} {H H' : Hp} (e : Same H H') : ∀ {vs : List V} {ds : List PyData}, DpAll K H vs ds → DpAll K H' vs ds
  | _, _, .nil => .nil
  | _, _, .cons h t => .cons (dp_same e h) (dpAll_same e t)
end
end Ov

set_option Elab.async false
set_option linter.all false
set_option maxRecDepth 100000
set_option maxHeartbeats 4000000
namespace Ov
open PySem PySem.Spec PyProof.Rows L2 He

/-! ### len(set(xs)), xs a list of different texts of any number (as HandS.Strs has it for one text) -/
def freshS (led : Bool) : Obj := { cls := .type "set", dict := none, data := .set #[] 0 (.fresh 0 0 led) }
section
variable {prog : Program} {w : World} {A : Around} {R : Result → Shared → Prop} {I : Addr} {fp wr : List Addr} {G : Array GenState → Array GenState → Prop} {n : Nat} {P : Nat → Value → Prop} {St : Nat → Shared → Prop}
theorem take_new {xs : List Str} (nd : xs.Nodup) {i : Nat} (h : i < xs.length) (k : Str) : ((xs.take i).any (· == k) || decide (k = xs[i])) = (xs.take (i + 1)).any (· == k) := by
  have e : xs.take (i + 1) = xs.take i ++ [xs[i]] := by rw [List.take_add_one, List.getElem?_eq_getElem h] <;> rfl
  rw [e, List.any_append]
  congr 1
  by_cases q : k = xs[i]
  · subst q; simp
  · have q2 : (xs[i] == k) = false := by simpa [beq_iff_eq] using fun z : xs[i] = k => q z.symm
    simp [q2, q]
theorem no_take {xs : List Str} (nd : xs.Nodup) {i : Nat} (h : i < xs.length) : (xs.take i).any (· == xs[i]) = false := by
  cases hb : (xs.take i).any (· == xs[i]) with
  | false => rfl
  | true =>
    obtain ⟨y, hy, ey⟩ := List.any_eq_true.mp hb
    have ey2 : y = xs[i] := eq_of_beq ey
    subst ey2
    obtain ⟨j, hj, ej⟩ := List.mem_take_iff_getElem.mp hy
    have hj2 : j < i := by omega
    exact absurd ej (List.pairwise_iff_getElem.mp nd j i (by omega) h hj2)
theorem upd_loop (W : WalksS prog w A.in1 I fp wr G n P St) (S : Addr) (off : S ∉ fp) (xs : List Str) (nd : xs.Nodup) (sz : xs.length = n) (room : n + 1 < scanBound)
    (val : ∀ i v, P i v → ∃ t, v = .str (xs.getD i Str.empty) t) : ∀ (k i : Nat) (s : Shared), n - i = k → i ≤ n → St i s → s.heap.SetOf (PySem.strKind prog w) S (fun z => (xs.take i).any (· == z)) i →
      (∀ s', Moved (S :: wr) G s s' → s'.heap.SetOf (PySem.strKind prog w) S (fun z => (xs.take n).any (· == z)) n → R (.ok (.ret .none)) s') → codeAny (model prog w) A (.builtin "set.update.loop" ⟨[.ref S, .ref I], []⟩) R s := by
  have offw : S ∉ wr := fun z => off (W.sub _ z)
  have more : ∀ b ∈ wr, b ∈ S :: wr := fun b z => List.mem_cons_of_mem _ z
  have stay : ∀ {s s' : Shared} {T : Str → Bool} {m : Nat}, Moved wr G s s' → s.heap.SetOf (PySem.strKind prog w) S T m → s'.heap.SetOf (PySem.strKind prog w) S T m := fun hm ⟨o, es, ep, t, ho, r⟩ => ⟨o, es, ep, t, hm.heap S _ offw ho, r⟩
  intro k
  induction k with
  | zero =>
    intro i s hk hi st hS fin
    obtain rfl : i = n := by omega
    refine codeAny_builtin PyProof.Rows.F.entry_set_update_loop ?_
    rw [Around.under_plainId PyProof.Rows.F.plain_set_update_loop _]
    refine wpAny_bind (m := pyNext (.ref I)) (W.done s _ _ st fun s' hm => ?_)
    exact wpAny_pure (fin s' (hm.mono more) (stay hm hS))
  | succ k ih =>
    intro i s hk hi st hS fin
    have lt : i < n := by omega
    have lt2 : i < xs.length := by omega
    refine codeAny_builtin PyProof.Rows.F.entry_set_update_loop ?_
    rw [Around.under_plainId PyProof.Rows.F.plain_set_update_loop _]
    refine wpAny_bind (m := pyNext (.ref I)) (W.item i s _ _ lt st fun v s' hP st' hm => ?_)
    obtain ⟨t, rfl⟩ := val i v hP
    have ex : xs.getD i Str.empty = xs[i] := by rw [List.getD_eq_getElem?_getD, List.getElem?_eq_getElem lt2] <;> rfl
    rw [ex]
    have hS1 := stay hm hS
    show wpAny _ A.in1 (holding [Value.str xs[i] t] (setAdd S (.str xs[i] t)) >>= _) _ _ s'
    refine wpAny_bind (wpAny_holding ?_)
    unfold setAdd
    refine wpAny_holding (wpAny_bind ((PySem.strKind prog w).pyHash (k := xs[i]) (strKind_is _ _ _ _) ?_))
    refine wpAny_setAddHashed_of (knd := PySem.strKind prog w) (s := { s' with toks := s'.toks + 1 }) (strKind_is _ _ _ _) rfl hS1 (by omega) fun h' sb hS2 => ?_
    have hS3 : h'.SetOf (PySem.strKind prog w) S (fun z => (xs.take (i + 1)).any (· == z)) (i + 1) := PyProof.Rows.SetOf_congr hS2 (fun z => take_new nd lt2 z) (by rw [no_take nd lt2]; rfl)
    refine wpAny_pure ⟨plainId_quiet PyProof.Rows.F.plain_set_update_loop _, ih (i + 1) _ (by omega) lt (W.frame _ s' _ _ st' (Nat.le_succ _) fun b hb o e => ?_) hS3 fun s2 hm2 hS4 => ?_⟩
    · rw [sb.2 b fun z : b = S => off (z ▸ hb)]
      exact e
    · refine fin s2 (Moved.trans W.gtrans ((hm.mono more).then_heap (Nat.le_succ _) fun b o hb e => ?_) hm2) hS4
      rw [sb.2 b fun z : b = S => hb (z ▸ List.mem_cons_self)]
      exact e
end
section
variable {prog : Program} {w : World} {A : Around} {E : Value → Shared → Prop} {s : Shared}
theorem set_of_texts {l : Addr} {its : Array Value} {xs : List Str} {Q : Value → Shared → Prop} (calm : A.handled = none) (hl : s.heap.IsList l its) (hi : PyProof.Rows.StrsAre its.toList xs) (nd : xs.Nodup) (room : xs.length + 1 < scanBound)
    (h : ∀ (h' : Heap) (tk : Nat), h'.SetOf (PySem.strKind prog w) s.heap.objs.size (fun z => (xs.take its.size).any (· == z)) its.size → (∀ b o, b < s.heap.objs.size → s.heap.get? b = some o → h'.get? b = some o) → Q (.ref s.heap.objs.size) { s with heap := h', toks := tk }) :
    wpAny (model prog w) A (call (.type "set") [.ref l]) Q E s := by
  obtain ⟨c, tl, hmro⟩ := PySem.F.called_set.mro
  have m1 := PySem.F.called_set.made
  have m2 := PySem.F.called_set.sub
  refine wpAny_call (codeAny_of_tree ?_)
  show wpAny _ _ (callAny (.type "set") _) _ _ _
  refine wpAny_pure ⟨Code.quiet_builtin _ (by decide +kernel), codeAny_builtin PySem.F.entry_type_call ?_⟩
  rw [Around.under_plain (weight_type_call_type "set" [.ref l] []) rfl]
  have m3 := PySem.F.called_set.notType
  have m4 := PySem.F.called_set.canCreate
  have m5 := PySem.F.typeCall_set_1 (.ref l)
  repeat (any_goals (first | assumption | wp_step))
  refine codeAny_mono (code_set_new_1 (.ref l) (E := E) (Q₁ := fun ob s₁ => ∃ led, ob = .ref s.heap.objs.size ∧ s₁ = { s with heap := s.heap.push (freshS led) }) fun led => ⟨led, rfl, rfl⟩) fun r s₁ hr => ?_
  cases r with
  | error e => exact hr
  | ok fl =>
    cases fl with
    | ret ob =>
      obtain ⟨led, rfl, rfl⟩ := hr
      have at0 : (s.heap.push (freshS led)).get? s.heap.objs.size = some (freshS led) := Heap.get?_push_size _ rfl
      have ty : Shared.TypeIs { s with heap := s.heap.push (freshS led) } (.ref s.heap.objs.size) "set" := ⟨_, at0, rfl⟩
      have hli := PySem.F.called_set.init.lookup
      have hbi := PySem.F.called_set.init.bind (.ref s.heap.objs.size)
      repeat (any_goals (first | assumption | wp_step))
      refine codeAny_mono (codeAny_call_builtin (R := wants (fun r s₂ => r = .none ∧ ∃ h' tk, s₂ = { s with heap := h', toks := tk } ∧ h'.SetOf (PySem.strKind prog w) s.heap.objs.size (fun z => (xs.take its.size).any (· == z)) its.size ∧
        (∀ b o, b < s.heap.objs.size → s.heap.get? b = some o → h'.get? b = some o)) E) PySem.F.called_set.init.plain PySem.F.entry_set_init (check_set_init_1 ty ?_)) fun r2 s2 hr2 => ?_
      · obtain ⟨⟨oc, od, oda, os⟩, ho, hc, nl, hd⟩ := hl
        have hc' : oc = Value.type "list" := hc
        have hd' : oda = Data.seq its nl := hd
        subst hc' hd'
        have ho2 : (s.heap.push (freshS led)).get? l = some { cls := .type "list", dict := od, data := .seq its nl, slots := os } := Heap.get?_push_of_some _ ho
        have ns := PySem.F.sub_list_set
        have nf := PySem.F.sub_list_frozenset
        have nd2 : (Value.type "list" == Value.type "dict") = false := by decide
        have hl1 : (s.heap.push (freshS led)).IsList l its := ⟨_, ho2, rfl, nl, rfl⟩
        have ll : l < s.heap.objs.size := Heap.lt_size ho
        have sz : (s.heap.push (freshS led)).objs.size = s.heap.objs.size + 1 := Heap.size_push ..
        unfold Builtin.«set.__init__» noKeywords Builtin.Frozenset.updateFrom
        generalize hPI : pyIter = PI
        wp_walk
        subst hPI
        refine wpAny_pyIter_list hl1 (wpAny_bind (wpAny_runValue ?_))
        have sx : xs.length = its.size := by rw [← StrsAre.len_eq hi, Array.length_toList]
        have vl : ∀ (i : Nat) (v : Value), its[i]? = some v → ∃ t, v = .str (xs.getD i Str.empty) t := fun i v hv => SS.strs_at hi i v (by rw [Array.getElem?_toList]; exact hv)
        refine upd_loop ((Walks.list (by simp [calm]) _ l (by rw [sz]; exact Nat.ne_of_lt (Nat.lt_succ_of_lt ll)) its).toS) s.heap.objs.size (by rw [sz]; simp only [List.mem_cons, List.not_mem_nil, or_false, not_or]; exact ⟨Nat.ne_of_lt (Nat.lt_succ_self _), Nat.ne_of_gt ll⟩) xs nd sx (by omega) vl (its.size - 0) 0 _ (by omega) (Nat.zero_le _)
          ⟨⟨_, Heap.get?_push_size _ rfl, rfl, rfl⟩, hl1.push _⟩ ?h0 ?hf
        case h0 =>
          have at1 : ((s.heap.push (freshS led)).push { cls := .type "list_iterator", data := .fields #[.ref l, .int 0 0] }).get? s.heap.objs.size = some (freshS led) := Heap.get?_push_of_some _ at0
          exact PyProof.Rows.SetOf_congr ((PyProof.Rows.setObjOf_fresh (knd := PySem.strKind prog w) led).setOf at1 (by unfold scanBound; omega)) (fun _ => rfl) rfl
        case hf =>
          rintro ⟨h', g', d', tk', os'⟩ hm hS'
          obtain rfl : g' = s.gens := hm.gens
          obtain rfl : d' = s.drawn := hm.drawn
          obtain rfl : os' = s.os := hm.os
          show wpAny _ _ _ _ _ _
          refine wpAny_pure ?_
          show wpAny _ _ (ret Value.none) _ _ _
          refine wpAny_pure ⟨rfl, h', tk', rfl, hS', fun b o hb e => hm.heap b o ?_ (Heap.get?_push_of_some _ (Heap.get?_push_of_some _ e))⟩
          rw [sz]
          simp only [List.mem_cons, List.not_mem_nil, or_false, not_or]
          exact ⟨Nat.ne_of_lt hb, Nat.ne_of_lt (Nat.lt_succ_of_lt hb)⟩
      · cases r2 with
        | error e => exact hr2
        | ok f2 =>
          cases f2 with
          | ret r =>
            obtain ⟨rfl, h', tk, rfl, hS', hk'⟩ := hr2
            repeat (any_goals (first | assumption | wp_step))
            exact h _ _ hS' hk'
          | _ => exact hr2.elim
    | _ => exact hr.elim
end
/-- len(set(xs)) -/
def tLenTx (K : PySem.W.Frag) (ta : TE) : TE := fun σ H Q => ta σ H fun x H1 => ∃ l, ∃ xs : List Str, x = .ref l ∧ SqL K H1 l (xs.map V.str) ∧ xs.Nodup ∧ xs.length ≤ 1000 ∧ Q (.int xs.length) H1
theorem pe_lenTx {X : Cx} {a : Expr} {ta : TE} {p p2 q pos : Pos} (hc : X.calm = true) (hg : Gl X "len") (hm : X.mg "len" = none) (hg2 : Gl X "set") (hm2 : X.mg "set" = none) (ha : PE X a ta)
    (na : starEach [a] X.env = (false, eval a X.env) :: starEach [] X.env := by rfl) : PE X (.Call (.Name "len" p) [.Call (.Name "set" p2) [a] [] q] [] pos) (tLenTx X.K ta) := by
  refine ⟨fun pins s σ H Q I h => Call_ (ld_blt I hg hm boot_len (PyProof.Rows.callWith_builtin1 (PyProof.Rows.args_cons ?_ rfl) rfl rfl))⟩
  refine Call_ (ld_blt I hg2 hm2 boot_set (PyProof.Rows.callWith_type1 (PyProof.Rows.args_cons (thn (ha.run pins s σ H _ I h) fun v s1 ⟨x, H1, I1, r1, q1⟩ => PyProof.Rows.args_nil ?_) na) na rfl))
  obtain ⟨l, xs, rfl, hq, nd, z, q1⟩ := q1
  cases r1
  obtain ⟨its, r, pl, hz⟩ := I1.list hq
  have hl : its.toArray.size = xs.length := by rw [List.size_toArray, ← r.length, List.length_map]
  refine set_of_texts (I1.ok.hd hc) pl.isList (by simpa using strsAre_of r) nd (by unfold scanBound; omega) fun h' tk hS hk => PyProof.Rows.args_nil ?_
  rw [hl] at hS
  obtain ⟨o, es, ep, t, ho, hex, hd, _, _, _, hf, hn⟩ := hS
  have I2 : Inv X pins σ H1 { s1 with heap := h', toks := tk } := I1.kept fun b o e => hk b o (Heap.lt_size e) e
  exact call_len_set ho hex hd hf (by rw [hn]; omega) ⟨.int xs.length, H1, I2.tok _, ⟨_, by rw [hn]⟩, q1⟩
end Ov

set_option Elab.async false
set_option linter.all false
set_option maxRecDepth 100000
set_option maxHeartbeats 4000000
namespace Ov
open PySem PySem.Spec PyProof.Rows L2 He
/-! ### list(range(a, b, c)) -/
def rgN (a b c : Int) : Nat := (Builtin.Range.rangeSize a b c).toNat
def rgV3 (a b c : Int) : List V := (List.range (rgN a b c)).map fun i => V.int (a + (i : Nat) * c)
theorem vals_rg3 {a b c : Int} {acc : Array Value} (h : ItemsOf (fun i v => ∃ t, v = .int (a + i * c) t) acc (rgN a b c)) : Vals (rgV3 a b c) acc.toList := by
  have e : acc.toList.length = rgN a b c := by rw [Array.length_toList]; exact h.1
  unfold rgV3
  rw [← e]
  refine vals_of_get acc.toList _ fun j u hj => ?_
  obtain ⟨t, rfl⟩ := h.2 j u (by rw [← hj, Array.getElem?_toList])
  exact ⟨t, rfl⟩
def tLstRg3 (ta : TA) : TE := fun σ H Q => ta σ H fun vs H1 => ∃ i j c : Int, vs = [.int i, .int j, .int c] ∧ c ≠ 0 ∧ c.natAbs < 1073741824 ∧ Builtin.Range.small i j c = true ∧ rgN i j c ≤ 2 ^ 24 ∧ ∀ p, H1 p = none → Q (.ref p) (upd H1 p (.lst (rgV3 i j c)))
theorem pe_listRg3 {X : Cx} {a b c : Expr} {ta : TA} {p p2 pos pos2 : Pos} (hc : X.calm = true) (hg : Gl X "list") (hm : X.mg "list" = none) (hg2 : Gl X "range") (hm2 : X.mg "range" = none) (ha : PA X [a, b, c] ta)
    (hs : starEach [a, b, c] X.env = (false, eval a X.env) :: starEach [b, c] X.env := by rfl) (hpl : (backTo pos2 (starEach [b, c] X.env)).any (·.1) = false := by rfl)
    (na : starEach [.Call (.Name "range" p2) [a, b, c] [] pos2] X.env = (false, eval (.Call (.Name "range" p2) [a, b, c] [] pos2) X.env) :: starEach [] X.env := by rfl) :
    PE X (.Call (.Name "list" p) [.Call (.Name "range" p2) [a, b, c] [] pos2] [] pos) (tLstRg3 ta) := by
  refine ⟨fun pins s σ H Q I h => ?_⟩
  refine Call_ (ld_blt I hg hm boot_list (PyProof.Rows.callWith_type1 (args_cons (Q := fun us s' => _) ?_ na) na))
  refine Call_ (ld_blt I hg2 hm2 boot_range (PyProof.Rows.callWith_type1 (thn (ha.run pos2 pins s σ H _ I h) fun us s1 ⟨vs, H1, I1, r1, q1⟩ => ?_) hs hpl))
  obtain ⟨i, j, k, e, c0, c1, c2, c3, q⟩ := q1
  subst e
  cases r1 with
  | cons r rr =>
    cases rr with
    | cons r' rr =>
      cases rr with
      | cons r'' rr =>
        cases rr
        obtain ⟨t, rfl⟩ := r
        obtain ⟨t', rfl⟩ := r'
        obtain ⟨t'', rfl⟩ := r''
        refine call_range_3 c0 ?_ (.inl (PyProof.noPylong_small c1))
        have I2 : Inv X pins σ H1 { s1 with heap := s1.heap.push { cls := .type "range", data := .fields #[.int i t, .int j t', .int k t''] } } := I1.kept (t' := s1.toks) fun b o e => Heap.get?_push_of_some _ e
        refine args_nil ?_
        refine call_list_range (n := rgN i j k) (I2.ok.hd hc) (IsRange.new ..) c2 (rangeSize_toNat i j k) c3 fun h' tk acc cc hk e' hi => ?_
        refine ⟨.ref _, upd H1 _ (.lst (rgV3 i j k)), I2.laid (t' := tk) hk (Nat.le_refl _) (show ObjOk X.prog X.w _ _ _ (.lst (rgV3 i j k)) from ⟨?_, acc.toList, cc, vals_rg3 hi, ?_⟩), rfl, q _ (I2.hok.fresh (Nat.le_refl _))⟩
        · unfold rgV3
          rw [List.length_map, List.length_range, sizeLine_eq]; omega
        · rw [Array.toArray_toList]; exact e'
end Ov

set_option Elab.async false
set_option linter.all false
set_option maxRecDepth 100000
set_option maxHeartbeats 4000000
namespace Ov
open PySem PySem.Spec PyProof.Rows L2 He
/-! ### a text some times -/
def repS (z : Str) (n : Nat) : Str := ⟨(List.replicate n z.cps).foldl (· ++ ·) #[]⟩
theorem op_repStr {X : Cx} : OpR X (binaryOp .Mult) (fun x y H Q => ∃ (z : Str) (n : Nat), x = .str z ∧ y = .int n ∧ 2 ≤ n ∧ n ≤ 1000 ∧ 1 ≤ z.length ∧ z.length ≤ 1000 ∧ (repS z n).length ≤ sizeLine ∧ Q (.str (repS z n)) H) := by
  intro pins s σ H x y v u Q I rx ry h
  obtain ⟨z, n, rfl, rfl, n1, n2, z1, z2, hz, q⟩ := h
  obtain ⟨t, rfl⟩ := rx
  obtain ⟨t', rfl⟩ := ry
  refine P.mul_str ?_ ?_ ?_ ?_
  · rw [decide_eq_false (by omega), decide_eq_false (by omega)]; rfl
  · intro _ _ hb
    have e : (2 ^ 63 - 1) / (n : Int) ≥ 1000 := by
      apply Int.le_ediv_of_mul_le <;> omega
    omega
  · intro _ _
    unfold Builtin.Str.tooLong
    have e : z.length * n ≤ 1000 * 1000 := Nat.mul_le_mul z2 n2
    have e2 : (1000 * 1000 : Nat) ≤ sizeLine := by decide
    simp only [Int.toNat_natCast]
    exact decide_eq_false (by omega)
  · rw [if_neg (by omega), if_neg (by
      intro hb
      rcases Bool.or_eq_true_iff.mp hb with c | c
      · have := beq_iff_eq.mp c
        omega
      · have := beq_iff_eq.mp c
        omega)]
    exact ⟨hz, ⟨.str (repS z n), H, I.tok _, ⟨_, rfl⟩, q⟩⟩
end Ov

set_option Elab.async false
set_option linter.all false
set_option maxRecDepth 100000
set_option maxHeartbeats 8000000
namespace K42
open PySem PySem.Spec PyProof.Rows L2 He Ov
abbrev prg : Program := PySem.Challenge.pw_overstamps_k42_numbers_of_parts_shown
def top (i : Nat) : Stmt := prg.main.body.getD i (.Pass ⟨0, 0, 0, 0⟩)
abbrev s_is_row_tables : Stmt := top 19
abbrev s_is_row_stamps : Stmt := top 31
abbrev s_is_plain_text : Stmt := top 13
abbrev s_need_text : Stmt := top 14
abbrev s_later_bounds : Stmt := top 16
abbrev s_table_of : Stmt := top 17
abbrev s_are_words : Stmt := top 35
abbrev s_is_whole_number : Stmt := top 18
abbrev s_is_table : Stmt := top 21
abbrev s_bounds_in : Stmt := top 22
abbrev s_follows : Stmt := top 23
abbrev s_shows : Stmt := top 24
abbrev s__law_vat : Stmt := top 52
abbrev s__law_sip : Stmt := top 53
abbrev s__law_words : Stmt := top 54
abbrev s__law_mark : Stmt := top 55
abbrev s__law_made : Stmt := top 56
abbrev s__law_agreeing : Stmt := top 57
abbrev s__law_least : Stmt := top 58
abbrev s__law_listed : Stmt := top 59
abbrev s__law_right : Stmt := top 60
abbrev s_law : Stmt := top 61
abbrev s_Grid_agreeing : Stmt := inClass (top 15) 1
abbrev s_Grid_first_ones : Stmt := inClass (top 15) 2
abbrev s_Grid_can_end : Stmt := inClass (top 15) 3
abbrev s_Stamps_words : Stmt := inClass (top 37) 3
abbrev s_Stamps_width : Stmt := inClass (top 37) 4
abbrev s_Band_stamps : Stmt := inClass (top 47) 5
abbrev s_Stamps_of : Stmt := inClass (top 37) 2
abbrev s_Band_named : Stmt := inClass (top 47) 4
abbrev s_Grid_init : Stmt := inClass (top 15) 0
abbrev s_Stamps_init : Stmt := inClass (top 37) 1
abbrev s_Band_init : Stmt := inClass (top 47) 3
def d0 : He5.DefA := ⟨fun K => ga K "is_plain_text", "is_plain_text", "is_plain_text", defArgs (s_is_plain_text), defBody (s_is_plain_text), defScope (s_is_plain_text), [], []⟩
def d1 : He5.DefA := ⟨fun K => ga K "need_text", "need_text", "need_text", defArgs (s_need_text), defBody (s_need_text), defScope (s_need_text), [], []⟩
def d2 : He5.DefA := ⟨fun K => ga K "later_bounds", "later_bounds", "later_bounds", defArgs (s_later_bounds), defBody (s_later_bounds), defScope (s_later_bounds), [], []⟩
def d3 : He5.DefA := ⟨fun K => ga K "table_of", "table_of", "table_of", defArgs (s_table_of), defBody (s_table_of), defScope (s_table_of), [], []⟩
def d4 : He5.DefA := ⟨fun K => ga K "are_words", "are_words", "are_words", defArgs (s_are_words), defBody (s_are_words), defScope (s_are_words), [], []⟩
def d5 : He5.DefA := ⟨fun K => ga K "is_whole_number", "is_whole_number", "is_whole_number", defArgs (s_is_whole_number), defBody (s_is_whole_number), defScope (s_is_whole_number), [], []⟩
def d6 : He5.DefA := ⟨fun K => ga K "is_table", "is_table", "is_table", defArgs (s_is_table), defBody (s_is_table), defScope (s_is_table), [], []⟩
def d7 : He5.DefA := ⟨fun K => ga K "bounds_in", "bounds_in", "bounds_in", defArgs (s_bounds_in), defBody (s_bounds_in), defScope (s_bounds_in), [], []⟩
def d8 : He5.DefA := ⟨fun K => ga K "follows", "follows", "follows", defArgs (s_follows), defBody (s_follows), defScope (s_follows), [], []⟩
def d9 : He5.DefA := ⟨fun K => ga K "shows", "shows", "shows", defArgs (s_shows), defBody (s_shows), defScope (s_shows), [], []⟩
def d10 : He5.DefA := ⟨fun K => ga K "_law_vat", "_law_vat", "_law_vat", defArgs (s__law_vat), defBody (s__law_vat), defScope (s__law_vat), [], []⟩
def d11 : He5.DefA := ⟨fun K => ga K "_law_sip", "_law_sip", "_law_sip", defArgs (s__law_sip), defBody (s__law_sip), defScope (s__law_sip), [], []⟩
def d12 : He5.DefA := ⟨fun K => ga K "_law_words", "_law_words", "_law_words", defArgs (s__law_words), defBody (s__law_words), defScope (s__law_words), [], []⟩
def d13 : He5.DefA := ⟨fun K => ga K "_law_mark", "_law_mark", "_law_mark", defArgs (s__law_mark), defBody (s__law_mark), defScope (s__law_mark), [], []⟩
def d14 : He5.DefA := ⟨fun K => ga K "_law_made", "_law_made", "_law_made", defArgs (s__law_made), defBody (s__law_made), defScope (s__law_made), [], []⟩
def d15 : He5.DefA := ⟨fun K => ga K "_law_agreeing", "_law_agreeing", "_law_agreeing", defArgs (s__law_agreeing), defBody (s__law_agreeing), defScope (s__law_agreeing), [], []⟩
def d16 : He5.DefA := ⟨fun K => ga K "_law_least", "_law_least", "_law_least", defArgs (s__law_least), defBody (s__law_least), defScope (s__law_least), [], []⟩
def d17 : He5.DefA := ⟨fun K => ga K "_law_listed", "_law_listed", "_law_listed", defArgs (s__law_listed), defBody (s__law_listed), defScope (s__law_listed), [], []⟩
def d18 : He5.DefA := ⟨fun K => ga K "_law_right", "_law_right", "_law_right", defArgs (s__law_right), defBody (s__law_right), defScope (s__law_right), [], []⟩
def d19 : He5.DefA := ⟨fun K => ga K "law", "law", "law", defArgs (s_law), defBody (s_law), defScope (s_law), [], []⟩
def d20 : He5.DefA := ⟨fun K => ga K "is_row_tables", "is_row", "is_row", defArgs (s_is_row_tables), defBody (s_is_row_tables), defScope (s_is_row_tables), [], []⟩
def d21 : He5.DefA := ⟨fun K => ga K "is_row_stamps", "is_row", "is_row", defArgs (s_is_row_stamps), defBody (s_is_row_stamps), defScope (s_is_row_stamps), [], []⟩
def d22 : He5.DefA := ⟨fun K => ma K (ga K "Grid") "agreeing", "agreeing", "Grid.agreeing", defArgs (s_Grid_agreeing), defBody (s_Grid_agreeing), defScope (s_Grid_agreeing), [], []⟩
def d23 : He5.DefA := ⟨fun K => ma K (ga K "Grid") "first_ones", "first_ones", "Grid.first_ones", defArgs (s_Grid_first_ones), defBody (s_Grid_first_ones), defScope (s_Grid_first_ones), [], []⟩
def d24 : He5.DefA := ⟨fun K => ma K (ga K "Grid") "can_end", "can_end", "Grid.can_end", defArgs (s_Grid_can_end), defBody (s_Grid_can_end), defScope (s_Grid_can_end), [], []⟩
def d25 : He5.DefA := ⟨fun K => ma K (ga K "Grid") "__init__", "__init__", "Grid.__init__", defArgs (s_Grid_init), defBody (s_Grid_init), defScope (s_Grid_init), [], []⟩
def d26 : He5.DefA := ⟨fun K => ma K (ga K "Stamps") "__init__", "__init__", "Stamps.__init__", defArgs (s_Stamps_init), defBody (s_Stamps_init), defScope (s_Stamps_init), [], []⟩
def d27 : He5.DefA := ⟨fun K => ma K (ga K "Line") "__init__", "__init__", "Band.__init__", defArgs (s_Band_init), defBody (s_Band_init), defScope (s_Band_init), [], []⟩
def d28 : He5.DefA := ⟨fun K => ma K (ga K "Window") "__init__", "__init__", "Band.__init__", defArgs (s_Band_init), defBody (s_Band_init), defScope (s_Band_init), [], []⟩
def d29 : He5.DefA := ⟨fun K => gp K (ga K "Stamps") "words", "words", "Stamps.words", defArgs (s_Stamps_words), defBody (s_Stamps_words), defScope (s_Stamps_words), [], []⟩
def d30 : He5.DefA := ⟨fun K => gp K (ga K "Stamps") "width", "width", "Stamps.width", defArgs (s_Stamps_width), defBody (s_Stamps_width), defScope (s_Stamps_width), [], []⟩
def d31 : He5.DefA := ⟨fun K => gp K (ga K "Line") "stamps", "stamps", "Band.stamps", defArgs (s_Band_stamps), defBody (s_Band_stamps), defScope (s_Band_stamps), [], []⟩
def d32 : He5.DefA := ⟨fun K => gp K (ga K "Window") "stamps", "stamps", "Band.stamps", defArgs (s_Band_stamps), defBody (s_Band_stamps), defScope (s_Band_stamps), [], []⟩
def d33 : He5.DefA := ⟨fun K => He5.wf K (ga K "Stamps") "classmethod" "of", "of", "Stamps.of", defArgs (s_Stamps_of), defBody (s_Stamps_of), defScope (s_Stamps_of), [], []⟩
def d34 : He5.DefA := ⟨fun K => He5.wf K (ga K "Band") "classmethod" "named", "named", "Band.named", defArgs (s_Band_named), defBody (s_Band_named), defScope (s_Band_named), [], []⟩
def fn : List He5.DefA := [d0, d1, d2, d3, d4, d5, d6, d7, d8, d9, d10, d11, d12, d13, d14, d15, d16, d17, d18, d19, d20, d21, d22, d23, d24, d25, d26, d27, d28, d29, d30, d31, d32, d33, d34]
def fa : List Fa := [.free "len", .free "isinstance", .free "str", .free "list", .free "all", .free "enumerate", .free "range", .free "min", .free "max", .free "int", .free "set", .free "sorted", .free "abs", .free "repr", .free "zip", .free "bool", .free "tuple", .int "MOST_CELLS_tables" 120, .int "MOST_WIDTH" 8, .int "MOST_LETTERS" 36, .str "LETTERS_tables" "abcdefghijklmnopqrstuvwxyz", .str "LINE" "line", .str "LETTERS_stamps" "abcdefghijklmnopqrstuvwxyz", .glo "is_plain_text", .glo "need_text", .glo "later_bounds", .glo "table_of", .glo "are_words", .glo "is_whole_number", .glo "is_table", .glo "bounds_in", .glo "follows", .glo "shows", .glo "_law_vat", .glo "_law_sip", .glo "_law_words", .glo "_law_mark", .glo "_law_made", .glo "_law_agreeing", .glo "_law_least", .glo "_law_listed", .glo "_law_right", .glo "law", .glo "is_row_tables", .glo "is_row_stamps", .cls "Grid", .glo "Grid", .cls "Stamps", .glo "Stamps", .cls "Line", .glo "Line", .cls "Window", .glo "Window", .glo "Band", .glo "Ring", .noat "Grid" "own_words", .noat "Grid" "is_line", .noat "Grid" "letters", .noat "Grid" "last_offset", .noat "Stamps" "held_words", .noat "Line" "held_stamps", .noat "Line" "inks", .noat "Line" "ink_width", .noat "Window" "held_stamps", .noat "Window" "inks", .noat "Window" "ink_width", .meth "Grid" "agreeing", .meth "Grid" "first_ones", .meth "Grid" "can_end", .mkr "Grid", .mkr "Stamps", .mkr "Line", .mkr "Window"]
def exl : List (PySem.W.Frag → Bool) := [fun K => propB K (ga K "Stamps") "words", fun K => propB K (ga K "Stamps") "width", fun K => propB K (ga K "Line") "stamps", fun K => propB K (ga K "Window") "stamps", fun K => cmB K (ga K "Stamps") "of", fun K => cmB K (ga K "Band") "named", fun K => creadB K (ga K "Stamps"), fun K => creadB K (ga K "Band"), fun K => creadB K (ga K "Line"), fun K => creadB K (ga K "Window"), fun K => creadB K (ga K "Ring"), fun K => cvalB K (ga K "Stamps") "MOST" (.int 6), fun K => cvalB K (ga K "Line") "NAME" (.str "line"), fun K => cvalB K (ga K "Window") "NAME" (.str "window"), fun K => cvalB K (ga K "Ring") "NAME" (.str "ring"), fun K => conB K "Line" "NAME" (.str "line"), fun K => conB K "Window" "NAME" (.str "window")]
def ex (K : PySem.W.Frag) : Bool := exl.all fun b => b K
/-- what the top has written -/
structure Txt (K : PySem.W.Frag) (mg : Str → Option Value) : Prop where
  z_len : mg "len" = none
  z_isinstance : mg "isinstance" = none
  z_str : mg "str" = none
  z_list : mg "list" = none
  z_all : mg "all" = none
  z_enumerate : mg "enumerate" = none
  z_range : mg "range" = none
  z_min : mg "min" = none
  z_max : mg "max" = none
  z_int : mg "int" = none
  z_set : mg "set" = none
  z_sorted : mg "sorted" = none
  z_abs : mg "abs" = none
  z_repr : mg "repr" = none
  z_zip : mg "zip" = none
  z_bool : mg "bool" = none
  z_tuple : mg "tuple" = none
  c_MOST_CELLS_tables : ∃ t, mg "MOST_CELLS_tables" = some (.int 120 t)
  c_MOST_WIDTH : ∃ t, mg "MOST_WIDTH" = some (.int 8 t)
  c_MOST_LETTERS : ∃ t, mg "MOST_LETTERS" = some (.int 36 t)
  c_LETTERS_tables : ∃ t, mg "LETTERS_tables" = some (.str "abcdefghijklmnopqrstuvwxyz" t)
  c_LINE : ∃ t, mg "LINE" = some (.str "line" t)
  c_LETTERS_stamps : ∃ t, mg "LETTERS_stamps" = some (.str "abcdefghijklmnopqrstuvwxyz" t)
  f_is_plain_text : FunX K "is_plain_text" "is_plain_text" s_is_plain_text (ga K "is_plain_text")
  g_is_plain_text : mg "is_plain_text" = some (.ref (ga K "is_plain_text"))
  f_need_text : FunX K "need_text" "need_text" s_need_text (ga K "need_text")
  g_need_text : mg "need_text" = some (.ref (ga K "need_text"))
  f_later_bounds : FunX K "later_bounds" "later_bounds" s_later_bounds (ga K "later_bounds")
  g_later_bounds : mg "later_bounds" = some (.ref (ga K "later_bounds"))
  f_table_of : FunX K "table_of" "table_of" s_table_of (ga K "table_of")
  g_table_of : mg "table_of" = some (.ref (ga K "table_of"))
  f_are_words : FunX K "are_words" "are_words" s_are_words (ga K "are_words")
  g_are_words : mg "are_words" = some (.ref (ga K "are_words"))
  f_is_whole_number : FunX K "is_whole_number" "is_whole_number" s_is_whole_number (ga K "is_whole_number")
  g_is_whole_number : mg "is_whole_number" = some (.ref (ga K "is_whole_number"))
  f_is_table : FunX K "is_table" "is_table" s_is_table (ga K "is_table")
  g_is_table : mg "is_table" = some (.ref (ga K "is_table"))
  f_bounds_in : FunX K "bounds_in" "bounds_in" s_bounds_in (ga K "bounds_in")
  g_bounds_in : mg "bounds_in" = some (.ref (ga K "bounds_in"))
  f_follows : FunX K "follows" "follows" s_follows (ga K "follows")
  g_follows : mg "follows" = some (.ref (ga K "follows"))
  f_shows : FunX K "shows" "shows" s_shows (ga K "shows")
  g_shows : mg "shows" = some (.ref (ga K "shows"))
  f__law_vat : FunX K "_law_vat" "_law_vat" s__law_vat (ga K "_law_vat")
  g__law_vat : mg "_law_vat" = some (.ref (ga K "_law_vat"))
  f__law_sip : FunX K "_law_sip" "_law_sip" s__law_sip (ga K "_law_sip")
  g__law_sip : mg "_law_sip" = some (.ref (ga K "_law_sip"))
  f__law_words : FunX K "_law_words" "_law_words" s__law_words (ga K "_law_words")
  g__law_words : mg "_law_words" = some (.ref (ga K "_law_words"))
  f__law_mark : FunX K "_law_mark" "_law_mark" s__law_mark (ga K "_law_mark")
  g__law_mark : mg "_law_mark" = some (.ref (ga K "_law_mark"))
  f__law_made : FunX K "_law_made" "_law_made" s__law_made (ga K "_law_made")
  g__law_made : mg "_law_made" = some (.ref (ga K "_law_made"))
  f__law_agreeing : FunX K "_law_agreeing" "_law_agreeing" s__law_agreeing (ga K "_law_agreeing")
  g__law_agreeing : mg "_law_agreeing" = some (.ref (ga K "_law_agreeing"))
  f__law_least : FunX K "_law_least" "_law_least" s__law_least (ga K "_law_least")
  g__law_least : mg "_law_least" = some (.ref (ga K "_law_least"))
  f__law_listed : FunX K "_law_listed" "_law_listed" s__law_listed (ga K "_law_listed")
  g__law_listed : mg "_law_listed" = some (.ref (ga K "_law_listed"))
  f__law_right : FunX K "_law_right" "_law_right" s__law_right (ga K "_law_right")
  g__law_right : mg "_law_right" = some (.ref (ga K "_law_right"))
  f_law : FunX K "law" "law" s_law (ga K "law")
  g_law : mg "law" = some (.ref (ga K "law"))
  f_is_row_tables : FunX K "is_row" "is_row" s_is_row_tables (ga K "is_row_tables")
  g_is_row_tables : mg "is_row_tables" = some (.ref (ga K "is_row_tables"))
  f_is_row_stamps : FunX K "is_row" "is_row" s_is_row_stamps (ga K "is_row_stamps")
  g_is_row_stamps : mg "is_row_stamps" = some (.ref (ga K "is_row_stamps"))
  cl_Grid : Cls K (ga K "Grid")
  g_Grid : mg "Grid" = some (.ref (ga K "Grid"))
  cl_Stamps : Cls K (ga K "Stamps")
  g_Stamps : mg "Stamps" = some (.ref (ga K "Stamps"))
  cl_Line : Cls K (ga K "Line")
  g_Line : mg "Line" = some (.ref (ga K "Line"))
  cl_Window : Cls K (ga K "Window")
  g_Window : mg "Window" = some (.ref (ga K "Window"))
  g_Band : mg "Band" = some (.ref (ga K "Band"))
  g_Ring : mg "Ring" = some (.ref (ga K "Ring"))
  n_Grid_own_words : NoAttr K (ga K "Grid") "own_words"
  n_Grid_is_line : NoAttr K (ga K "Grid") "is_line"
  n_Grid_letters : NoAttr K (ga K "Grid") "letters"
  n_Grid_last_offset : NoAttr K (ga K "Grid") "last_offset"
  n_Stamps_held_words : NoAttr K (ga K "Stamps") "held_words"
  n_Line_held_stamps : NoAttr K (ga K "Line") "held_stamps"
  n_Line_inks : NoAttr K (ga K "Line") "inks"
  n_Line_ink_width : NoAttr K (ga K "Line") "ink_width"
  n_Window_held_stamps : NoAttr K (ga K "Window") "held_stamps"
  n_Window_inks : NoAttr K (ga K "Window") "inks"
  n_Window_ink_width : NoAttr K (ga K "Window") "ink_width"
  f_Grid_agreeing : FunX K "agreeing" "Grid.agreeing" s_Grid_agreeing (ma K (ga K "Grid") "agreeing")
  m_Grid_agreeing : Meth K (ga K "Grid") "agreeing" (ma K (ga K "Grid") "agreeing")
  f_Grid_first_ones : FunX K "first_ones" "Grid.first_ones" s_Grid_first_ones (ma K (ga K "Grid") "first_ones")
  m_Grid_first_ones : Meth K (ga K "Grid") "first_ones" (ma K (ga K "Grid") "first_ones")
  f_Grid_can_end : FunX K "can_end" "Grid.can_end" s_Grid_can_end (ma K (ga K "Grid") "can_end")
  m_Grid_can_end : Meth K (ga K "Grid") "can_end" (ma K (ga K "Grid") "can_end")
  f_Grid_init : FunX K "__init__" "Grid.__init__" s_Grid_init (ma K (ga K "Grid") "__init__")
  mk_Grid : Mk K (ga K "Grid") (ma K (ga K "Grid") "__init__")
  f_Stamps_init : FunX K "__init__" "Stamps.__init__" s_Stamps_init (ma K (ga K "Stamps") "__init__")
  mk_Stamps : Mk K (ga K "Stamps") (ma K (ga K "Stamps") "__init__")
  f_Line_init : FunX K "__init__" "Band.__init__" s_Band_init (ma K (ga K "Line") "__init__")
  mk_Line : Mk K (ga K "Line") (ma K (ga K "Line") "__init__")
  f_Window_init : FunX K "__init__" "Band.__init__" s_Band_init (ma K (ga K "Window") "__init__")
  mk_Window : Mk K (ga K "Window") (ma K (ga K "Window") "__init__")
  f_Stamps_words : FunX K "words" "Stamps.words" s_Stamps_words (gp K (ga K "Stamps") "words")
  f_Stamps_width : FunX K "width" "Stamps.width" s_Stamps_width (gp K (ga K "Stamps") "width")
  f_Line_stamps : FunX K "stamps" "Band.stamps" s_Band_stamps (gp K (ga K "Line") "stamps")
  f_Window_stamps : FunX K "stamps" "Band.stamps" s_Band_stamps (gp K (ga K "Window") "stamps")
  f_Stamps_of : FunX K "of" "Stamps.of" s_Stamps_of (He5.wf K (ga K "Stamps") "classmethod" "of")
  f_Band_named : FunX K "named" "Band.named" s_Band_named (He5.wf K (ga K "Band") "classmethod" "named")
  p_Stamps_words : PropOf K (ga K "Stamps") "words" (ma K (ga K "Stamps") "words") (gp K (ga K "Stamps") "words")
  p_Stamps_width : PropOf K (ga K "Stamps") "width" (ma K (ga K "Stamps") "width") (gp K (ga K "Stamps") "width")
  p_Line_stamps : PropOf K (ga K "Line") "stamps" (ma K (ga K "Line") "stamps") (gp K (ga K "Line") "stamps")
  p_Window_stamps : PropOf K (ga K "Window") "stamps" (ma K (ga K "Window") "stamps") (gp K (ga K "Window") "stamps")
  cm_Stamps_of : ClX.CMet K (ga K "Stamps") (.type "type") "of" (ma K (ga K "Stamps") "of") (He5.wf K (ga K "Stamps") "classmethod" "of")
  cm_Band_named : ClX.CMet K (ga K "Band") (.type "type") "named" (ma K (ga K "Band") "named") (He5.wf K (ga K "Band") "classmethod" "named")
  r_Stamps : ClX.CRead K (ga K "Stamps") (.type "type")
  r_Band : ClX.CRead K (ga K "Band") (.type "type")
  r_Line : ClX.CRead K (ga K "Line") (.type "type")
  r_Window : ClX.CRead K (ga K "Window") (.type "type")
  r_Ring : ClX.CRead K (ga K "Ring") (.type "type")
  cv_Stamps_MOST : ∃ u, ClX.CVal K (ga K "Stamps") (.type "type") "MOST" (.int 6) u
  cv_Line_NAME : ∃ u, ClX.CVal K (ga K "Line") (.type "type") "NAME" (.str "line") u
  cv_Window_NAME : ∃ u, ClX.CVal K (ga K "Window") (.type "type") "NAME" (.str "window") u
  cv_Ring_NAME : ∃ u, ClX.CVal K (ga K "Ring") (.type "type") "NAME" (.str "ring") u
  k_Line_NAME : ∃ u, Con K (ga K "Line") "NAME" (.str "line") u
  k_Window_NAME : ∃ u, Con K (ga K "Window") "NAME" (.str "window") u
theorem fx_of {K : PySem.W.Frag} (c : SaysO fa fn ex K) {d : He5.DefA} {st : Stmt} (i : Nat) (h : fn[i]? = some d) (e : d = ⟨d.at_, d.name, d.qual, defArgs st, defBody st, defScope st, [], []⟩) : FunX K d.name d.qual st (d.at_ K) := by
  obtain ⟨fd, F⟩ := He5.SaysA.def_ c.a i h
  rw [e] at F
  exact ⟨fd, He5.fun_of F⟩
theorem exs {K : PySem.W.Frag} (c : SaysO fa fn ex K) (i : Nat) {b : PySem.W.Frag → Bool} (h : exl[i]? = some b) : b K = true := List.all_eq_true.mp c.more b (List.mem_of_getElem? h)
theorem txt_of {K : PySem.W.Frag} {h : Heap} {mg : Str → Option Value} (X : K.In h) (G : h.Ns mainGlobals mg) (c : SaysO fa fn ex K) : Txt K mg := by
  exact {
    z_len := free_ok X G (He5.SaysA.fact c.a 0 (f := .free "len") rfl),
    z_isinstance := free_ok X G (He5.SaysA.fact c.a 1 (f := .free "isinstance") rfl),
    z_str := free_ok X G (He5.SaysA.fact c.a 2 (f := .free "str") rfl),
    z_list := free_ok X G (He5.SaysA.fact c.a 3 (f := .free "list") rfl),
    z_all := free_ok X G (He5.SaysA.fact c.a 4 (f := .free "all") rfl),
    z_enumerate := free_ok X G (He5.SaysA.fact c.a 5 (f := .free "enumerate") rfl),
    z_range := free_ok X G (He5.SaysA.fact c.a 6 (f := .free "range") rfl),
    z_min := free_ok X G (He5.SaysA.fact c.a 7 (f := .free "min") rfl),
    z_max := free_ok X G (He5.SaysA.fact c.a 8 (f := .free "max") rfl),
    z_int := free_ok X G (He5.SaysA.fact c.a 9 (f := .free "int") rfl),
    z_set := free_ok X G (He5.SaysA.fact c.a 10 (f := .free "set") rfl),
    z_sorted := free_ok X G (He5.SaysA.fact c.a 11 (f := .free "sorted") rfl),
    z_abs := free_ok X G (He5.SaysA.fact c.a 12 (f := .free "abs") rfl),
    z_repr := free_ok X G (He5.SaysA.fact c.a 13 (f := .free "repr") rfl),
    z_zip := free_ok X G (He5.SaysA.fact c.a 14 (f := .free "zip") rfl),
    z_bool := free_ok X G (He5.SaysA.fact c.a 15 (f := .free "bool") rfl),
    z_tuple := free_ok X G (He5.SaysA.fact c.a 16 (f := .free "tuple") rfl),
    c_MOST_CELLS_tables := int_ok X G (He5.SaysA.fact c.a 17 (f := .int "MOST_CELLS_tables" 120) rfl),
    c_MOST_WIDTH := int_ok X G (He5.SaysA.fact c.a 18 (f := .int "MOST_WIDTH" 8) rfl),
    c_MOST_LETTERS := int_ok X G (He5.SaysA.fact c.a 19 (f := .int "MOST_LETTERS" 36) rfl),
    c_LETTERS_tables := str_ok X G (He5.SaysA.fact c.a 20 (f := .str "LETTERS_tables" "abcdefghijklmnopqrstuvwxyz") rfl),
    c_LINE := str_ok X G (He5.SaysA.fact c.a 21 (f := .str "LINE" "line") rfl),
    c_LETTERS_stamps := str_ok X G (He5.SaysA.fact c.a 22 (f := .str "LETTERS_stamps" "abcdefghijklmnopqrstuvwxyz") rfl),
    f_is_plain_text := fx_of c (d := d0) (st := s_is_plain_text) 0 rfl rfl,
    g_is_plain_text := glo_ok X G (He5.SaysA.fact c.a 23 (f := .glo "is_plain_text") rfl),
    f_need_text := fx_of c (d := d1) (st := s_need_text) 1 rfl rfl,
    g_need_text := glo_ok X G (He5.SaysA.fact c.a 24 (f := .glo "need_text") rfl),
    f_later_bounds := fx_of c (d := d2) (st := s_later_bounds) 2 rfl rfl,
    g_later_bounds := glo_ok X G (He5.SaysA.fact c.a 25 (f := .glo "later_bounds") rfl),
    f_table_of := fx_of c (d := d3) (st := s_table_of) 3 rfl rfl,
    g_table_of := glo_ok X G (He5.SaysA.fact c.a 26 (f := .glo "table_of") rfl),
    f_are_words := fx_of c (d := d4) (st := s_are_words) 4 rfl rfl,
    g_are_words := glo_ok X G (He5.SaysA.fact c.a 27 (f := .glo "are_words") rfl),
    f_is_whole_number := fx_of c (d := d5) (st := s_is_whole_number) 5 rfl rfl,
    g_is_whole_number := glo_ok X G (He5.SaysA.fact c.a 28 (f := .glo "is_whole_number") rfl),
    f_is_table := fx_of c (d := d6) (st := s_is_table) 6 rfl rfl,
    g_is_table := glo_ok X G (He5.SaysA.fact c.a 29 (f := .glo "is_table") rfl),
    f_bounds_in := fx_of c (d := d7) (st := s_bounds_in) 7 rfl rfl,
    g_bounds_in := glo_ok X G (He5.SaysA.fact c.a 30 (f := .glo "bounds_in") rfl),
    f_follows := fx_of c (d := d8) (st := s_follows) 8 rfl rfl,
    g_follows := glo_ok X G (He5.SaysA.fact c.a 31 (f := .glo "follows") rfl),
    f_shows := fx_of c (d := d9) (st := s_shows) 9 rfl rfl,
    g_shows := glo_ok X G (He5.SaysA.fact c.a 32 (f := .glo "shows") rfl),
    f__law_vat := fx_of c (d := d10) (st := s__law_vat) 10 rfl rfl,
    g__law_vat := glo_ok X G (He5.SaysA.fact c.a 33 (f := .glo "_law_vat") rfl),
    f__law_sip := fx_of c (d := d11) (st := s__law_sip) 11 rfl rfl,
    g__law_sip := glo_ok X G (He5.SaysA.fact c.a 34 (f := .glo "_law_sip") rfl),
    f__law_words := fx_of c (d := d12) (st := s__law_words) 12 rfl rfl,
    g__law_words := glo_ok X G (He5.SaysA.fact c.a 35 (f := .glo "_law_words") rfl),
    f__law_mark := fx_of c (d := d13) (st := s__law_mark) 13 rfl rfl,
    g__law_mark := glo_ok X G (He5.SaysA.fact c.a 36 (f := .glo "_law_mark") rfl),
    f__law_made := fx_of c (d := d14) (st := s__law_made) 14 rfl rfl,
    g__law_made := glo_ok X G (He5.SaysA.fact c.a 37 (f := .glo "_law_made") rfl),
    f__law_agreeing := fx_of c (d := d15) (st := s__law_agreeing) 15 rfl rfl,
    g__law_agreeing := glo_ok X G (He5.SaysA.fact c.a 38 (f := .glo "_law_agreeing") rfl),
    f__law_least := fx_of c (d := d16) (st := s__law_least) 16 rfl rfl,
    g__law_least := glo_ok X G (He5.SaysA.fact c.a 39 (f := .glo "_law_least") rfl),
    f__law_listed := fx_of c (d := d17) (st := s__law_listed) 17 rfl rfl,
    g__law_listed := glo_ok X G (He5.SaysA.fact c.a 40 (f := .glo "_law_listed") rfl),
    f__law_right := fx_of c (d := d18) (st := s__law_right) 18 rfl rfl,
    g__law_right := glo_ok X G (He5.SaysA.fact c.a 41 (f := .glo "_law_right") rfl),
    f_law := fx_of c (d := d19) (st := s_law) 19 rfl rfl,
    g_law := glo_ok X G (He5.SaysA.fact c.a 42 (f := .glo "law") rfl),
    f_is_row_tables := fx_of c (d := d20) (st := s_is_row_tables) 20 rfl rfl,
    g_is_row_tables := glo_ok X G (He5.SaysA.fact c.a 43 (f := .glo "is_row_tables") rfl),
    f_is_row_stamps := fx_of c (d := d21) (st := s_is_row_stamps) 21 rfl rfl,
    g_is_row_stamps := glo_ok X G (He5.SaysA.fact c.a 44 (f := .glo "is_row_stamps") rfl),
    cl_Grid := cls_ok (He5.SaysA.fact c.a 45 (f := .cls "Grid") rfl),
    g_Grid := glo_ok X G (He5.SaysA.fact c.a 46 (f := .glo "Grid") rfl),
    cl_Stamps := cls_ok (He5.SaysA.fact c.a 47 (f := .cls "Stamps") rfl),
    g_Stamps := glo_ok X G (He5.SaysA.fact c.a 48 (f := .glo "Stamps") rfl),
    cl_Line := cls_ok (He5.SaysA.fact c.a 49 (f := .cls "Line") rfl),
    g_Line := glo_ok X G (He5.SaysA.fact c.a 50 (f := .glo "Line") rfl),
    cl_Window := cls_ok (He5.SaysA.fact c.a 51 (f := .cls "Window") rfl),
    g_Window := glo_ok X G (He5.SaysA.fact c.a 52 (f := .glo "Window") rfl),
    g_Band := glo_ok X G (He5.SaysA.fact c.a 53 (f := .glo "Band") rfl),
    g_Ring := glo_ok X G (He5.SaysA.fact c.a 54 (f := .glo "Ring") rfl),
    n_Grid_own_words := noat_ok (He5.SaysA.fact c.a 55 (f := .noat "Grid" "own_words") rfl),
    n_Grid_is_line := noat_ok (He5.SaysA.fact c.a 56 (f := .noat "Grid" "is_line") rfl),
    n_Grid_letters := noat_ok (He5.SaysA.fact c.a 57 (f := .noat "Grid" "letters") rfl),
    n_Grid_last_offset := noat_ok (He5.SaysA.fact c.a 58 (f := .noat "Grid" "last_offset") rfl),
    n_Stamps_held_words := noat_ok (He5.SaysA.fact c.a 59 (f := .noat "Stamps" "held_words") rfl),
    n_Line_held_stamps := noat_ok (He5.SaysA.fact c.a 60 (f := .noat "Line" "held_stamps") rfl),
    n_Line_inks := noat_ok (He5.SaysA.fact c.a 61 (f := .noat "Line" "inks") rfl),
    n_Line_ink_width := noat_ok (He5.SaysA.fact c.a 62 (f := .noat "Line" "ink_width") rfl),
    n_Window_held_stamps := noat_ok (He5.SaysA.fact c.a 63 (f := .noat "Window" "held_stamps") rfl),
    n_Window_inks := noat_ok (He5.SaysA.fact c.a 64 (f := .noat "Window" "inks") rfl),
    n_Window_ink_width := noat_ok (He5.SaysA.fact c.a 65 (f := .noat "Window" "ink_width") rfl),
    f_Grid_agreeing := fx_of c (d := d22) (st := s_Grid_agreeing) 22 rfl rfl,
    m_Grid_agreeing := meth_ok (He5.SaysA.fact c.a 66 (f := .meth "Grid" "agreeing") rfl),
    f_Grid_first_ones := fx_of c (d := d23) (st := s_Grid_first_ones) 23 rfl rfl,
    m_Grid_first_ones := meth_ok (He5.SaysA.fact c.a 67 (f := .meth "Grid" "first_ones") rfl),
    f_Grid_can_end := fx_of c (d := d24) (st := s_Grid_can_end) 24 rfl rfl,
    m_Grid_can_end := meth_ok (He5.SaysA.fact c.a 68 (f := .meth "Grid" "can_end") rfl),
    f_Grid_init := fx_of c (d := d25) (st := s_Grid_init) 25 rfl rfl,
    mk_Grid := mkr_ok (He5.SaysA.fact c.a 69 (f := .mkr "Grid") rfl),
    f_Stamps_init := fx_of c (d := d26) (st := s_Stamps_init) 26 rfl rfl,
    mk_Stamps := mkr_ok (He5.SaysA.fact c.a 70 (f := .mkr "Stamps") rfl),
    f_Line_init := fx_of c (d := d27) (st := s_Band_init) 27 rfl rfl,
    mk_Line := mkr_ok (He5.SaysA.fact c.a 71 (f := .mkr "Line") rfl),
    f_Window_init := fx_of c (d := d28) (st := s_Band_init) 28 rfl rfl,
    mk_Window := mkr_ok (He5.SaysA.fact c.a 72 (f := .mkr "Window") rfl),
    f_Stamps_words := fx_of c (d := d29) (st := s_Stamps_words) 29 rfl rfl,
    f_Stamps_width := fx_of c (d := d30) (st := s_Stamps_width) 30 rfl rfl,
    f_Line_stamps := fx_of c (d := d31) (st := s_Band_stamps) 31 rfl rfl,
    f_Window_stamps := fx_of c (d := d32) (st := s_Band_stamps) 32 rfl rfl,
    f_Stamps_of := fx_of c (d := d33) (st := s_Stamps_of) 33 rfl rfl,
    f_Band_named := fx_of c (d := d34) (st := s_Band_named) 34 rfl rfl,
    p_Stamps_words := propB_ok (exs c 0 rfl),
    p_Stamps_width := propB_ok (exs c 1 rfl),
    p_Line_stamps := propB_ok (exs c 2 rfl),
    p_Window_stamps := propB_ok (exs c 3 rfl),
    cm_Stamps_of := cmB_ok (exs c 4 rfl),
    cm_Band_named := cmB_ok (exs c 5 rfl),
    r_Stamps := creadB_ok (exs c 6 rfl),
    r_Band := creadB_ok (exs c 7 rfl),
    r_Line := creadB_ok (exs c 8 rfl),
    r_Window := creadB_ok (exs c 9 rfl),
    r_Ring := creadB_ok (exs c 10 rfl),
    cv_Stamps_MOST := cvalB_ok (v := .int 6) (exs c 11 rfl),
    cv_Line_NAME := cvalB_ok (v := .str "line") (exs c 12 rfl),
    cv_Window_NAME := cvalB_ok (v := .str "window") (exs c 13 rfl),
    cv_Ring_NAME := cvalB_ok (v := .str "ring") (exs c 14 rfl),
    k_Line_NAME := conB_ok (v := .str "line") (exs c 15 rfl),
    k_Window_NAME := conB_ok (v := .str "window") (exs c 16 rfl)
  }
end K42

set_option Elab.async false
set_option linter.all false
set_option maxRecDepth 100000
set_option maxHeartbeats 4000000
namespace K42
open PySem PySem.Spec PyProof.Rows L2 He Ov

/-- a vat of draws at a, of which so many have been drawn -/
def Vat (H : Hp) (a : Addr) (n : Nat) : Prop := ∃ x y z : Int, H a = some (.lst [.int x, .int y, .int z]) ∧ 0 ≤ x ∧ y.natAbs < 2 ^ 150 ∧ 0 ≤ y ∧ 0 ≤ z ∧ z ≤ n
theorem Vat.mono {H : Hp} {a : Addr} {n m : Nat} (v : Vat H a n) (h : n ≤ m) : Vat H a m := by
  obtain ⟨x, y, z, h1, h2, h3, h4, h5, h6⟩ := v
  exact ⟨x, y, z, h1, h2, h3, h4, h5, by omega⟩
theorem Vat.same {H H' : Hp} {a : Addr} {n : Nat} (v : Vat H a n) (s : Same H H') : Vat H' a n := by
  obtain ⟨x, y, z, h1, r⟩ := v
  exact ⟨x, y, z, s _ _ h1, r⟩
def spVat (K : PySem.W.Frag) : Sp := fun vs H Q _ => ∃ (s : Addr) (ns : List Int) (k : Nat), vs = [.ref s, .int k] ∧ SqL K H s (ns.map V.int) ∧ k < 64 ∧ ∀ H' p, Same H H' → H p = none → Vat H' p 0 → Q (.ref p) H'
def spSip : Sp := fun vs H Q _ => ∃ (a : Addr) (size : Int) (n : Nat), vs = [.ref a, .int size] ∧ Vat H a n ∧ n < 2 ^ 20 ∧ 1 ≤ size ∧ size < 2 ^ 20 ∧ ∀ H' r, 0 ≤ r → r < size → SameBut a H H' → Vat H' a (n + 1) → Q (.int r) H'
section
variable {P : Program} {w : World} {K : PySem.W.Frag} {mg : Str → Option Value} {base : Heap}
abbrev N_vat : List Str := ["script", "k", "cell"]
theorem sc_vat : FnScope N_vat ["script", "k"] (defScope s__law_vat) := ⟨rfl, rfl, rfl, by decide +kernel, rfl, by decide +kernel, by decide +kernel⟩
theorem b_vat : BindsX "_law_vat" "_law_vat" s__law_vat ["script", "k"] := fun _ _ _ _ _ _ us hl => match us, hl with | [_, _], _ => rfl
theorem tail_vat {k : Nat} {c : Int} {H : Hp} {a : Addr} {D : Ends} (hk : k < 64) (hc : 0 ≤ c) (q : ∀ (H' : Hp) (p : Addr), Same H H' → H p = none → Vat H' p 0 → D.rt (V.ref p) H') :
    tRet (tLst (tCons (tCB (fun xs H Q => ∃ i j, xs = [V.int i, V.int j] ∧ Q (V.int (if j > i then j else i)) H) (tCons (tC (V.int 0)) (tCons (tOp (rI0 fun i j => V.int (i - j)) (tVar 2) (tOp (rI CPow fun i j => V.int (i ^ j.toNat)) (tC (V.int 10)) (tC (V.int 18)))) tNil)))
      (tCons (tOp (rI0 fun i j => V.int (i + j)) (tOp (rI CMul fun i j => V.int (i * j)) (tOp (rI (fun x j => j ≠ 0) fun i j => V.int (i.fmod j)) (tVar 2) (tOp (rI0 fun i j => V.int (i + j)) (tOp (rI CPow fun i j => V.int (i ^ j.toNat)) (tC (V.int 10)) (tC (V.int 39))) (tC (V.int 3)))) (tC (V.int 64))) (tVar 1))
      (tCons (tC (V.int 0)) tNil)))) D ((start N_vat [.ref a, .int k]).set 2 (some (.int c))) H := by
  have hp : (10 : Int) ^ (39 : Int).toNat + 3 = 1000000000000000000000000000000000000003 := by decide +kernel
  have m0 := Int.fmod_nonneg hc (by decide : (0 : Int) ≤ 1000000000000000000000000000000000000003)
  have m1 : c.fmod 1000000000000000000000000000000000000003 < 1000000000000000000000000000000000000003 := Int.fmod_lt_of_pos _ (by decide)
  refine ⟨_, rfl, _, _, rfl, rfl, ⟨by decide, by decide, by decide⟩, _, _, rfl, rfl, _, _, rfl, _, rfl, _, _, rfl, rfl, ⟨by decide, by decide, by decide⟩, _, _, rfl, rfl, _, _, rfl, rfl, by rw [hp]; show (1000000000000000000000000000000000000003 : Int) ≠ 0; decide, ?_⟩
  rw [hp]
  refine ⟨_, _, rfl, rfl, .inr (by decide), _, rfl, _, _, rfl, rfl, by show 3 ≤ sizeLine; decide, fun p np => q _ p (same_upd np) np ⟨_, _, _, upd_same, ?_, ?_, ?_, by decide, by decide⟩⟩
  · split <;> omega
  · omega
  · omega
theorem ok_vat (T : Txt K mg) : CallC P w K mg base CX0 1 "_law_vat" ["script", "k"] (spVat K) := by
  refine ⟨kept_of T.f__law_vat sc_vat b_vat (fun vs H Q E h => ?_) (fun cdv A outer s H vs Q E hr h => ?_), T.g__law_vat, (let ⟨_, F⟩ := T.f__law_vat; F.kp)⟩
  · obtain ⟨s, ns, k, rfl, _⟩ := h
    rfl
  · obtain ⟨a, ns, k, rfl, hs, hk, q⟩ := h
    refine ⟨_, pss_cons (ps_set (i := 2) sc_vat.nd rfl (.inl rfl) (pe_ifExp (pt_cmpR op_lt (pv 1) (pe_callB call_len_seq (by rfl) T.z_len PySem.boot_len (pa_cons (pv 0) pa_nil)) (nomark _)) (pe_callB call_abs (by rfl) T.z_abs (by decide +kernel) (pa_cons (pe_ix ix_list (pv 0) (pv 1) (fun _ _ => rfl)) pa_nil)) pe_int))
      (pss_one (ps_ret (pe_lst (pa_cons (pe_callB (call_max2 rfl) (by rfl) T.z_max (by decide +kernel) (pa_cons pe_int (pa_cons (pe_op op_sub (pv 2) (pe_op op_pow pe_int pe_int)) pa_nil)))
        (pa_cons (pe_op op_add (pe_op op_mul (pe_op op_modN (pv 2) (pe_op op_add (pe_op op_pow pe_int pe_int) pe_int)) pe_int) (pv 1)) (pa_cons pe_int pa_nil)))))), ?_⟩
    refine ⟨_, rfl, _, rfl, _, _, rfl, .inl hs, _, _, rfl, rfl, _, rfl, ?_⟩
    rw [List.length_map]
    by_cases hlt : k < ns.length
    · rw [decide_eq_true (by omega : (k : Int) < (ns.length : Nat))]
      refine iteT ⟨_, rfl, _, rfl, a, _, _, _, rfl, rfl, hs, atI_nat (v := .int ns[k]) (by rw [List.getElem?_map, List.getElem?_eq_getElem hlt]; rfl), _, rfl, ?_⟩
      obtain ⟨c, hc, e⟩ : ∃ c : Int, 0 ≤ c ∧ (if ns[k] < 0 then -ns[k] else ns[k]) = c := by
        by_cases h : ns[k] < 0
        · exact ⟨_, by rw [if_pos h]; omega, rfl⟩
        · exact ⟨_, by rw [if_neg h]; omega, rfl⟩
      rw [e]
      exact tail_vat hk hc q
    · rw [decide_eq_false (by omega : ¬ (k : Int) < (ns.length : Nat))]
      refine iteF ?_
      exact tail_vat hk (Int.le_refl 0) q
abbrev N_sip : List Str := ["vat", "size", "digit", "mixed"]
theorem sc_sip : FnScope N_sip ["vat", "size"] (defScope s__law_sip) := ⟨rfl, rfl, rfl, by decide +kernel, rfl, by decide +kernel, by decide +kernel⟩
theorem b_sip : BindsX "_law_sip" "_law_sip" s__law_sip ["vat", "size"] := fun _ _ _ _ _ _ us hl => match us, hl with | [_, _], _ => rfl
theorem ok_sip (T : Txt K mg) : CallC P w K mg base CX0 1 "_law_sip" ["vat", "size"] spSip := by
  refine ⟨kept_of T.f__law_sip sc_sip b_sip (fun vs H Q E h => ?_) (fun cdv A outer s H vs Q E hr h => ?_), T.g__law_sip, (let ⟨_, F⟩ := T.f__law_sip; F.kp)⟩
  · obtain ⟨s, ns, k, rfl, _⟩ := h
    rfl
  · obtain ⟨a, size, n, rfl, ⟨x, y, z, ha, hx, hy, hy0, hz, hzn⟩, hn, h1, h2, q⟩ := h
    refine ⟨_, pss_cons (ps_if (pt_cmpR op_gt (pe_ix ix_list (pv 0) pe_int (fun _ _ => rfl)) pe_int (nomark _))
        (pss_cons (ps_set (i := 2) sc_sip.nd rfl (.inl rfl) (pe_op op_modN (pe_ix ix_list (pv 0) pe_int (fun _ _ => rfl)) (pv 1)))
        (pss_cons (ps_asg (pe_op op_fdivN (pe_ix ix_list (pv 0) pe_int (fun _ _ => rfl)) (pv 1)) (pg_sub (pv 0) pe_int set_list))
        (pss_one (ps_ret (pv 2))))) pss_nil)
      (pss_cons (ps_asg (pe_op op_add (pe_ix ix_list (pv 0) pe_int (fun _ _ => rfl)) pe_int) (pg_sub (pv 0) pe_int set_list))
      (pss_cons (ps_set (i := 3) sc_sip.nd rfl (.inl rfl) (pe_op op_modN (pe_op op_powW (pe_op op_add (pe_ix ix_list (pv 0) pe_int (fun _ _ => rfl)) (pe_op op_mul pe_int (pe_ix ix_list (pv 0) pe_int (fun _ _ => rfl)))) pe_int) (pe_op op_add (pe_op op_pow pe_int pe_int) pe_int)))
      (pss_cons (ps_set (i := 3) sc_sip.nd rfl (.inl rfl) (pe_op op_modN (pe_op op_powW (pe_op op_add (pv 3) (pe_op op_mul pe_int (pe_ix ix_list (pv 0) pe_int (fun _ _ => rfl)))) pe_int) (pe_op op_add (pe_op op_pow pe_int pe_int) pe_int)))
      (pss_one (ps_ret (pe_op op_modN (pe_op op_fdivN (pv 3) pe_int) (pv 1))))))), ?_⟩
    have hs : SqL K H a [.int x, .int y, .int z] := SqL.of ha
    refine ⟨_, rfl, a, _, _, _, rfl, rfl, hs, rfl, _, _, rfl, rfl, _, rfl, ?_⟩
    by_cases hx0 : 0 < x
    · rw [decide_eq_true hx0]
      have hd : (x.fdiv size) = x / size := Int.fdiv_eq_ediv_of_nonneg x (by omega)
      refine iteT ⟨_, rfl, a, _, _, _, rfl, rfl, hs, rfl, _, rfl, _, _, rfl, rfl, by show size ≠ 0; omega, ?_⟩
      refine ⟨_, rfl, a, _, _, _, rfl, rfl, hs, rfl, _, rfl, _, _, rfl, rfl, ⟨by omega, by omega⟩, _, rfl, a, _, _, _, rfl, rfl, ha, rfl, _, rfl, ?_⟩
      refine q _ _ (Int.fmod_nonneg hx (by omega)) (Int.fmod_lt_of_pos _ (by omega)) .upd ⟨_, _, _, upd_same, ?_, hy, hy0, hz, by omega⟩
      rw [hd]
      exact Int.ediv_nonneg hx (by omega)
    · rw [decide_eq_false hx0]
      have hs2 : SqL K (upd H a (.lst [.int x, .int y, .int (z + 1)])) a [.int x, .int y, .int (z + 1)] := SqL.of upd_same
      have e41 : (10 : Int) ^ (41 : Int).toNat + 37 = 100000000000000000000000000000000000000037 := by decide +kernel
      have e38 : (10 : Int) ^ (38 : Int).toNat + 133 = 100000000000000000000000000000000000133 := by decide +kernel
      refine iteF ⟨_, rfl, a, _, _, _, rfl, rfl, hs, rfl, _, _, rfl, rfl, _, rfl, a, _, _, _, rfl, rfl, ha, rfl, ?_⟩
      refine ⟨_, rfl, a, _, _, _, rfl, rfl, hs2, rfl, _, rfl, a, _, _, _, rfl, rfl, hs2, rfl, _, _, rfl, rfl, .inl ⟨by decide, by decide⟩, _, _, rfl, rfl, _, _, rfl, rfl, powW_of (a := 160) (by omega) (by decide) (by decide) (by decide), ?_⟩
      refine ⟨_, _, rfl, rfl, ⟨by decide, by decide, by decide⟩, _, _, rfl, rfl, _, _, rfl, rfl, by rw [e41]; show (100000000000000000000000000000000000000037 : Int) ≠ 0; decide, ?_⟩
      rw [e41]
      have m0 : 0 ≤ ((y + 49979693 * (z + 1)) ^ (3 : Int).toNat).fmod 100000000000000000000000000000000000000037 := Int.fmod_nonneg (Int.pow_nonneg (by omega)) (by decide)
      have m1 : ((y + 49979693 * (z + 1)) ^ (3 : Int).toNat).fmod 100000000000000000000000000000000000000037 < 100000000000000000000000000000000000000037 := Int.fmod_lt_of_pos _ (by decide)
      refine ⟨_, rfl, _, rfl, a, _, _, _, rfl, rfl, hs2, rfl, _, _, rfl, rfl, .inl ⟨by decide, by decide⟩, _, _, rfl, rfl, _, _, rfl, rfl, powW_of (a := 160) (by omega) (by decide) (by decide) (by decide), ?_⟩
      refine ⟨_, _, rfl, rfl, ⟨by decide, by decide, by decide⟩, _, _, rfl, rfl, _, _, rfl, rfl, by rw [e38]; show (100000000000000000000000000000000000133 : Int) ≠ 0; decide, ?_⟩
      rw [e38]
      refine ⟨_, rfl, _, _, rfl, rfl, ⟨by decide, by decide⟩, _, rfl, _, _, rfl, rfl, by show size ≠ 0; omega, ?_⟩
      refine q _ _ (Int.fmod_nonneg (Int.fdiv_nonneg (Int.fmod_nonneg (Int.pow_nonneg (by omega)) (by decide)) (by decide)) (by omega)) (Int.fmod_lt_of_pos _ (by omega)) .upd ⟨_, _, _, upd_same, hx, hy, hy0, by omega, by omega⟩
end
end K42

set_option Elab.async false
set_option linter.all false
set_option maxRecDepth 100000
set_option maxHeartbeats 4000000
namespace K42
open PySem PySem.Spec PyProof.Rows L2 He Ov

abbrev ABC : Str := "abcdefghijklmnopqrstuvwxyz"
def Abc (z : Str) : Prop := ∀ c ∈ z.cps.toList, c ∈ ABC.cps.toList
structure WordsOk (ws : List Str) (W : Nat) : Prop where
  ne : 1 ≤ ws.length
  few : ws.length ≤ 6
  nd : ws.Nodup
  w1 : 1 ≤ W
  w8 : W ≤ 8
  all : W * ws.length ≤ 36
  len : ∀ w ∈ ws, w.length = W
  abc : ∀ w ∈ ws, Abc w
/-- a new list within a comprehension -/
theorem Same.put {H H1 : Hp} {D : Addr} {o : HO} (s : Same H H1) (h : H D = none) : Same H (upd H1 D o) := SameBut.same s h .upd
def spRow : Sp := fun vs H Q _ => ∃ (z s : Str) (m : Int), vs = [.str z, .str s, .int m] ∧ (∀ c ∈ z.cps.toList, c ∈ s.cps.toList) ∧ 1 ≤ z.length ∧ (z.length : Int) ≤ m ∧ z.length ≤ 1000 ∧ ∀ H', Same H H' → Q (.bl true) H'
def spAre : Sp := fun vs H Q _ => ∃ (a : Addr) (ws : List Str) (W : Nat), vs = [.ref a] ∧ H a = some (.lst (ws.map V.str)) ∧ WordsOk ws W ∧ ∀ H', Same H H' → Q (.bl true) H'
def StampsAt (K : PySem.W.Frag) (H : Hp) (a : Addr) (ws : List Str) : Prop := ∃ dx l, H a = some (.ins (ga K "Stamps") dx [("held_words", .ref l)]) ∧ H l = some (.lst (ws.map V.str))
theorem StampsAt.same {K : PySem.W.Frag} {H H' : Hp} {a : Addr} {ws : List Str} (h : StampsAt K H a ws) (s : Same H H') : StampsAt K H' a ws := let ⟨dx, l, h1, h2⟩ := h; ⟨dx, l, s _ _ h1, s _ _ h2⟩
def spInitS (K : PySem.W.Frag) : Sp := fun vs H Q _ => ∃ (p dx t : Addr) (ws : List Str) (W : Nat), vs = [.ref p, .ref t] ∧ H p = some (.ins (ga K "Stamps") dx []) ∧ H t = some (.tup (ws.map V.str)) ∧ WordsOk ws W ∧
  ∀ H', SameBut p H H' → StampsAt K H' p ws → Q .non H'
def spOf (K : PySem.W.Frag) : Sp := fun vs H Q _ => ∃ (c a : Addr) (ws : List Str) (W : Nat), vs = [.ref c, .ref a] ∧ H a = some (.lst (ws.map V.str)) ∧ WordsOk ws W ∧ ∀ H' p, Same H H' → StampsAt K H' p ws → Q (.ref p) H'
def spWords (K : PySem.W.Frag) : Sp := fun vs H Q _ => ∃ (a : Addr) (ws : List Str), vs = [.ref a] ∧ StampsAt K H a ws ∧ ∀ H' p, Same H H' → H p = none → H' p = some (.lst (ws.map V.str)) → Q (.ref p) H'
def spWidth (K : PySem.W.Frag) : Sp := fun vs H Q _ => ∃ (a : Addr) (ws : List Str) (W : Nat), vs = [.ref a] ∧ StampsAt K H a ws ∧ WordsOk ws W ∧ Q (.int W) H
theorem all_true (n : Nat) : (List.replicate n V.bl) = List.replicate n V.bl := rfl
theorem snoc_true (i : Nat) : (List.replicate i true).map V.bl ++ [V.bl true] = (List.replicate (i + 1) true).map V.bl := by
  rw [List.replicate_succ', List.map_append]; rfl
theorem all_rep (n : Nat) : (List.replicate n true).all id = true := by
  induction n with
  | zero => rfl
  | succ n ih => rw [List.replicate_succ, List.all_cons, ih]; rfl
theorem len_le {z : Str} (h : z.length ≤ 1000) : z.length ≤ sizeLine := Nat.le_trans h (by decide)
/-- a turn of a comprehension without a test -/
theorem lcY {σ : L2.St} {H : Hp} {A : Hp → Prop} {B : Hp → Prop} (h : A H) : tYes σ H fun b H3 => if b = true then A H3 else B H3 := by
  show (if true = true then A H else B H)
  exact iteT h
section
variable {P : Program} {w : World} {K : PySem.W.Frag} {mg : Str → Option Value} {base : Heap}
abbrev N_row : List Str := ["thing", "signs", "most", "sign"]
theorem sc_row : FnScope N_row ["thing", "signs", "most"] (defScope s_is_row_stamps) := ⟨rfl, rfl, rfl, by decide +kernel, rfl, by decide +kernel, by decide +kernel⟩
theorem b_row : BindsX "is_row" "is_row" s_is_row_stamps ["thing", "signs", "most"] := fun _ _ _ _ _ _ us hl => match us, hl with | [_, _, _], _ => rfl
theorem ok_row (T : Txt K mg) : CallC P w K mg base CX0 1 "is_row_stamps" ["thing", "signs", "most"] spRow := by
  refine ⟨kept_of T.f_is_row_stamps sc_row b_row (fun vs H Q E h => ?_) (fun cdv A outer s H vs Q E hr h => ?_), T.g_is_row_stamps, (let ⟨_, F⟩ := T.f_is_row_stamps; F.kp)⟩
  · obtain ⟨z, s, m, rfl, _⟩ := h
    rfl
  · obtain ⟨z, s, m, rfl, hin, h1, h2, h3, q⟩ := h
    refine ⟨_, pss_one (ps_ret (pe_and (pe_callB call_isi (by rfl) T.z_isinstance (by decide +kernel) (pa_cons (pv 0) (pa_cons (pe_bty (n := "str") (by rfl) T.z_str) pa_nil)))
      (pe_and (pe_chain op_le op_le pe_int (pe_callB call_len_str (by rfl) T.z_len PySem.boot_len (pa_cons (pv 0) pa_nil)) (pv 2))
      (pe_one (pe_callB (cr_all rfl) (by rfl) T.z_all (by decide +kernel) (pa_cons (pe_lc (own := [("sign", 3)]) rfl sc_row.nd (pi_str (pv 0)) (blkOk_by (N := N_row) (sc := defScope s_is_row_stamps) (by decide +kernel))
        (fun _ _ _ _ _ => pg_name (i := 3) sc_row.nd rfl (.inl rfl)) (fun _ _ _ _ _ => pts_nil) (fun _ _ _ _ _ => pe_cmpR op_in_sign (pv 3) (pv 1) (by rfl))) pa_nil)))))), ?_⟩
    refine ⟨_, rfl, _, _, _, _, true, rfl, .ty "str", .base (.str z), kit_ty (by decide +kernel), _, rfl, iteT ?_⟩
    refine ⟨_, rfl, _, rfl, len_le h3, _, _, rfl, rfl, _, rfl, ?_⟩
    have e1 : decide ((1 : Int) ≤ (z.length : Nat)) = true := decide_eq_true (by omega)
    rw [e1]
    refine iteT ⟨_, rfl, _, _, rfl, rfl, _, rfl, ?_⟩
    rw [decide_eq_true h2]
    refine iteT ⟨_, rfl, z, rfl, fun D hD => ?_⟩
    refine lc_it walk_str (fun i H' => Same H H' ∧ H' D = some (.lst ((List.replicate i true).map V.bl))) ⟨Same.put (.refl _) hD, upd_same⟩ (fun _ _ _ _ => trivial) ?_ ?_
    · rintro i x H1 H2 hi ⟨hs, hd⟩ ⟨rfl, c, hc, rfl⟩
      refine ⟨rfl, lcY ⟨_, rfl, _, rfl, c, s, rfl, rfl, _, hd, ?_, ?_, ?_⟩⟩
      · simp only [List.length_map, List.length_replicate]
        exact small1000 (Nat.le_trans (Nat.le_of_lt hi) h3)
      · exact Same.put hs hD
      · rw [upd_same, decide_eq_true (hin c (by rw [← Array.getElem?_toList] at hc; exact List.mem_of_getElem? hc)), snoc_true]
    · rintro H1 ⟨hs, hd⟩
      refine ⟨_, _, rfl, SqL.of hd, ?_⟩
      rw [all_rep]
      exact q _ hs
abbrev N_are : List Str := ["thing", "width", "word"]
theorem sc_are : FnScope N_are ["thing"] (defScope s_are_words) := ⟨rfl, rfl, rfl, by decide +kernel, rfl, by decide +kernel, by decide +kernel⟩
theorem b_are : BindsX "are_words" "are_words" s_are_words ["thing"] := fun _ _ _ _ _ _ us hl => match us, hl with | [_], _ => rfl
theorem ok_are (T : Txt K mg) : CallC P w K mg base CX0 2 "are_words" ["thing"] spAre := by
  refine ⟨kept_of T.f_are_words sc_are b_are (fun vs H Q E h => ?_) (fun cdv A outer s H vs Q E hr h => ?_), T.g_are_words, (let ⟨_, F⟩ := T.f_are_words; F.kp)⟩
  · obtain ⟨a, ws, W, rfl, _⟩ := h
    rfl
  · obtain ⟨a, ws, W, rfl, ha, ok, q⟩ := h
    obtain ⟨uM, cvM⟩ := T.cv_Stamps_MOST
    refine ⟨_, pss_cons (ps_if (PW.pt (pw_or (pt_not (pt_val (pe_callB call_isi (by rfl) T.z_isinstance (by decide +kernel) (pa_cons (pv 0) (pa_cons (pe_bty (n := "list") (by rfl) T.z_list) pa_nil)))))
        (pw_or1 (pt_not (pt_chain op_le op_le pe_int (pe_callB call_len_seq (by rfl) T.z_len PySem.boot_len (pa_cons (pv 0) pa_nil)) (ClX.pe_cval (pe_glob (v := .ref (ga K "Stamps")) (by rfl) T.g_Stamps rfl))))))) (pss_one ps_never) pss_nil)
      (pss_cons (ps_if (pt_not (pt_val (pe_callB (cr_all rfl) (by rfl) T.z_all (by decide +kernel) (pa_cons (pe_lc (own := [("word", 2)]) rfl sc_are.nd (pi_list (pv 0)) (blkOk_by (N := N_are) (sc := defScope s_are_words) (by decide +kernel))
        (fun _ _ _ _ _ => pg_name (i := 2) sc_are.nd rfl (.inl rfl)) (fun _ _ _ _ _ => pts_nil) (fun _ _ _ _ _ => pe_callC (ok_row T) hr (by rfl) pass0 (pa_cons (pv 2) (pa_cons (pe_gstr (by rfl) T.c_LETTERS_stamps) (pa_cons (pe_gint (by rfl) T.c_MOST_WIDTH) pa_nil))))) pa_nil)))) (pss_one ps_never) pss_nil)
      (pss_cons (ps_set (i := 1) sc_are.nd rfl (.inr rfl) (pe_callB call_len_str (by rfl) T.z_len PySem.boot_len (pa_cons (pe_ix ix_list (pv 0) pe_int (fun _ _ => rfl)) pa_nil)))
      (pss_cons (ps_if (PW.pt (pw_or (pt_not (pt_val (pe_callB (cr_all rfl) (by rfl) T.z_all (by decide +kernel) (pa_cons (pe_lc (own := [("word", 2)]) rfl sc_are.nd (pi_list (pv 0)) (blkOk_by (N := N_are) (sc := defScope s_are_words) (by decide +kernel))
        (fun _ _ _ _ _ => pg_name (i := 2) sc_are.nd rfl (.inl rfl)) (fun _ _ _ _ _ => pts_nil) (fun _ _ _ _ _ => pe_cmpR op_eq (pe_callB call_len_str (by rfl) T.z_len PySem.boot_len (pa_cons (pv 2) pa_nil)) (pv 1) (nomark _))) pa_nil))))
        (pw_or1 (pt_cmpR op_gt (pe_op op_mul (pv 1) (pe_callB call_len_seq (by rfl) T.z_len PySem.boot_len (pa_cons (pv 0) pa_nil))) (pe_gint (by rfl) T.c_MOST_LETTERS) (nomark _))))) (pss_one ps_never) pss_nil)
      (pss_one (ps_ret (pe_cmpR op_eq (pe_lenTx rfl (by rfl) T.z_len (by rfl) T.z_set (pv 0)) (pe_callB call_len_seq (by rfl) T.z_len PySem.boot_len (pa_cons (pv 0) pa_nil)) (nomark _))))))), ?_⟩
    have hs : SqL K H a (ws.map V.str) := SqL.of ha
    have n1 := ok.ne
    have n6 := ok.few
    have lm : (ws.map V.str).length = ws.length := List.length_map ..
    refine ⟨_, rfl, _, _, _, _, true, rfl, .ty "list", .base (.lst ha), kit_ty (by decide +kernel), true, rfl, iteF ?_⟩
    refine ⟨_, rfl, _, _, rfl, .inl hs, _, _, rfl, rfl, _, rfl, ?_⟩
    rw [lm, decide_eq_true (by omega : (1 : Int) ≤ (ws.length : Nat))]
    refine iteT ⟨_, _, _, _, rfl, T.r_Stamps, cvM, _, _, rfl, rfl, true, congrArg V.bl (decide_eq_true (by omega)), iteF ?_⟩
    -- all of them rows
    refine ⟨_, rfl, a, rfl, ⟨_, hs⟩, fun D hD => ?_⟩
    refine lc_list (K := K) (a := a) (xs := ws.map V.str) (fun i H' => Same H H' ∧ H' D = some (.lst ((List.replicate i true).map V.bl))) ⟨Same.put (.refl _) hD, upd_same⟩ (fun _ _ _ h => h.1.seq hs) ?_ ?_
    · rintro i x H1 hx ⟨s1, hd⟩
      rw [List.getElem?_map] at hx
      obtain ⟨z, hz, rfl⟩ := Option.map_eq_some_iff.mp hx
      have hm := List.mem_of_getElem? hz
      have il : i < ws.length := (List.getElem?_eq_some_iff.mp hz).1
      have lz := ok.len z hm
      have w1 := ok.w1
      have w8 := ok.w8
      refine ⟨rfl, lcY ⟨_, rfl, z, _, _, rfl, ok.abc z hm, by omega, by omega, by omega, fun H2 s2 => ⟨_, s2 _ _ hd, ?_, ?_, ?_⟩⟩⟩
      · simp only [List.length_map, List.length_replicate]
        exact small1000 (by omega)
      · exact Same.put (s1.trans s2) hD
      · rw [upd_same, snoc_true]
    · rintro H1 ⟨s1, hd⟩
      refine ⟨_, _, rfl, SqL.of hd, ?_⟩
      rw [all_rep]
      refine ⟨true, rfl, iteF ?_⟩
      obtain ⟨z0, hz0⟩ : ∃ z, ws[0]? = some z := ⟨_, List.getElem?_eq_getElem n1⟩
      have lz0 := ok.len z0 (List.mem_of_getElem? hz0)
      have hs1 := s1.seq hs
      have w1 := ok.w1
      have w8 := ok.w8
      have w36 := ok.all
      refine ⟨_, rfl, a, _, _, _, rfl, rfl, hs1, atI_nat (j := 0) (v := .str z0) (by rw [List.getElem?_map, hz0]; rfl), _, rfl, len_le (by omega), ?_⟩
      rw [lz0]
      -- all of one width
      refine ⟨_, rfl, a, rfl, ⟨_, hs1⟩, fun D2 hD2 => ?_⟩
      refine lc_list (K := K) (a := a) (xs := ws.map V.str) (fun i H' => Same H1 H' ∧ H' D2 = some (.lst ((List.replicate i true).map V.bl))) ⟨Same.put (.refl _) hD2, upd_same⟩ (fun _ _ _ h => h.1.seq hs1) ?_ ?_
      · rintro i x H2 hx ⟨s2, hd2⟩
        rw [List.getElem?_map] at hx
        obtain ⟨z, hz, rfl⟩ := Option.map_eq_some_iff.mp hx
        have hm := List.mem_of_getElem? hz
        have il : i < ws.length := (List.getElem?_eq_some_iff.mp hz).1
        have lz := ok.len z hm
        refine ⟨rfl, lcY ⟨_, rfl, _, rfl, len_le (by omega), _, rfl, rfl, _, hd2, ?_, ?_, ?_⟩⟩
        · simp only [List.length_map, List.length_replicate]
          exact small1000 (by omega)
        · exact Same.put s2 hD2
        · rw [upd_same, lz, decide_eq_true rfl, snoc_true]
      · rintro H2 ⟨s2, hd2⟩
        refine ⟨_, _, rfl, SqL.of hd2, ?_⟩
        rw [all_rep]
        have hs2 := s2.seq hs1
        refine ⟨true, rfl, iteF ⟨_, rfl, _, rfl, _, _, rfl, .inl hs2, _, _, rfl, rfl, .inl ⟨by omega, by omega⟩, _, _, rfl, rfl, _, rfl, ?_⟩⟩
        rw [lm, decide_eq_false (by have : ((W * ws.length : Nat) : Int) ≤ 36 := by omega
                                    rw [Int.natCast_mul] at this; omega : ¬ (36 : Int) < (W : Int) * (ws.length : Nat))]
        refine iteF ⟨_, rfl, a, ws, rfl, hs2, ok.nd, by omega, _, rfl, _, _, rfl, .inl hs2, rfl, ?_⟩
        rw [lm, decide_eq_true rfl]
        exact q _ (s1.trans s2)
abbrev N_si : List Str := ["self", "words"]
theorem sc_si : FnScope N_si ["self", "words"] (defScope s_Stamps_init) := ⟨rfl, rfl, rfl, by decide +kernel, rfl, by decide +kernel, by decide +kernel⟩
/-- Stamps(*words) -/
def spInitR (K : PySem.W.Frag) : Sp := fun vs H Q E => ∃ ws rest, vs = ws ++ rest ∧ ws.length = 1 ∧ rest.length ≤ sizeLine ∧ ∀ p, H p = Option.none → spInitS K (ws ++ [V.ref p]) (upd H p (.tup rest)) Q E
theorem ok_si (T : Txt K mg) : FnR P w K mg base CX0 3 (ma K (ga K "Stamps") "__init__") (spInitR K) := by
  obtain ⟨fd, F⟩ := T.f_Stamps_init
  obtain ⟨oc, od, kV, doc, pm, an, cdv, ct, osl, rfl, lk, hcd⟩ := F.ex
  refine StX.fn_star (ps := ["self"]) (pv := "words") lk hcd sc_si StX.cxUp_none (StX.bind_star1 (B := fun l => bindArgs (PySem.W.fnOf "__init__" "Stamps.__init__" (defArgs s_Stamps_init) (defBody s_Stamps_init) (defScope s_Stamps_init) .none kV doc pm an cdv ct) ⟨l, []⟩) (fun _ => rfl) fun _ _ _ => rfl) fun A outer s H vs Q E hr h => ?_
  obtain ⟨p, dx, t, ws, W, rfl, hp, ht, ok, q⟩ := h
  refine ⟨_, PSs.nox (pss_cons (ps_if (pt_not (pt_val (pe_callC (ok_are T) hr (by rfl) pass0 (pa_cons (pe_callTy call_list_of (by rfl) T.z_list (by decide +kernel) (pa_cons (pv 1) pa_nil)) pa_nil)))) (pss_one ps_never) pss_nil)
    (pss_one (ps_fld (pv 0) (pe_callTy call_list_of (by rfl) T.z_list (by decide +kernel) (pa_cons (pv 1) pa_nil)) rfl))), ?_⟩
  refine ⟨_, rfl, t, _, rfl, .inr (SqT.of ht), fun l hl => ⟨l, ws, W, rfl, upd_same, ok, fun H1 s1 => ⟨true, rfl, iteF ?_⟩⟩⟩
  have s0 : Same H H1 := (same_upd hl).trans s1
  refine ⟨_, rfl, t, _, rfl, .inr (SqT.of (s0 _ _ ht)), fun l2 hl2 => ?_⟩
  have hp2 : upd H1 l2 (.lst (ws.map V.str)) p = some (.ins (ga K "Stamps") dx []) := (same_upd hl2) _ _ (s0 _ _ hp)
  refine ⟨_, rfl, p, _, dx, [], rfl, hp2, T.cl_Stamps, T.n_Stamps_held_words, by decide, ?_⟩
  refine q _ ?_ ⟨dx, l2, upd_same, ?_⟩
  · exact (Ov.Same.but (s0.trans (same_upd hl2))).trans .upd
  · rw [upd_ne (ne_of_none (s0 _ _ hp) hl2).symm, upd_same]
end
end K42

set_option Elab.async false
set_option linter.all false
set_option maxRecDepth 100000
set_option maxHeartbeats 4000000
namespace K42
open PySem PySem.Spec PyProof.Rows L2 He Ov
/-- the class of a line or a window -/
def bandC (K : PySem.W.Frag) (il : Bool) : Addr := if il then ga K "Line" else ga K "Window"
def bandN (il : Bool) : Str := if il then "line" else "window"
def bandF (s l : Addr) (W : Nat) : List (Str × V) := [("held_stamps", .ref s), ("inks", .ref l), ("ink_width", .int W)]
structure BandAt (K : PySem.W.Frag) (H : Hp) (b : Addr) (ws : List Str) (il : Bool) : Prop where
  at_ : ∃ dx s l W, H b = some (.ins (bandC K il) dx (bandF s l W)) ∧ StampsAt K H s ws ∧ H l = some (.lst (ws.map V.str))
theorem BandAt.same {K : PySem.W.Frag} {H H' : Hp} {b : Addr} {ws : List Str} {il : Bool} (h : BandAt K H b ws il) (s : Same H H') : BandAt K H' b ws il :=
  let ⟨dx, t, l, W, h1, h2, h3⟩ := h.at_; ⟨dx, t, l, W, s _ _ h1, h2.same s, s _ _ h3⟩
def spBInit (K : PySem.W.Frag) (il : Bool) : Sp := fun vs H Q _ => ∃ (p dx s : Addr) (ws : List Str) (W : Nat), vs = [.ref p, .ref s] ∧ H p = some (.ins (bandC K il) dx []) ∧ StampsAt K H s ws ∧ WordsOk ws W ∧
  ∀ H', SameBut p H H' → BandAt K H' p ws il → Q .non H'
def spNamed (K : PySem.W.Frag) : Sp := fun vs H Q _ => ∃ (c s : Addr) (il : Bool) (ws : List Str) (W : Nat), vs = [.ref c, .str (bandN il), .ref s] ∧ StampsAt K H s ws ∧ WordsOk ws W ∧ ∀ H' p, Same H H' → BandAt K H' p ws il → Q (.ref p) H'
def spStamps (K : PySem.W.Frag) (il : Bool) : Sp := fun vs H Q _ => ∃ (b : Addr) (ws : List Str), vs = [.ref b] ∧ BandAt K H b ws il ∧ ∀ s, StampsAt K H s ws → Q (.ref s) H
def MarkOk (z : Str) : Prop := 1 ≤ z.length ∧ z.length ≤ 120 ∧ Abc z
def spPlain : Sp := fun vs H Q _ => ∃ z : Str, vs = [.str z] ∧ MarkOk z ∧ ∀ H', Same H H' → Q (.bl true) H'
def spNeed : Sp := fun vs H Q _ => ∃ z : Str, vs = [.str z] ∧ MarkOk z ∧ ∀ H', Same H H' → Q .non H'
section
variable {P : Program} {w : World} {K : PySem.W.Frag} {mg : Str → Option Value} {base : Heap}
theorem keep {x qual : Str} {st : Stmt} {f : Addr} (F : FunX K x qual st f) : PySem.W.keepIn K (.ref f) = true := let ⟨_, F⟩ := F; F.kp
abbrev N_of : List Str := ["cls", "words"]
theorem sc_of : FnScope N_of ["cls", "words"] (defScope s_Stamps_of) := ⟨rfl, rfl, rfl, by decide +kernel, rfl, by decide +kernel, by decide +kernel⟩
theorem b_of : BindsX "of" "Stamps.of" s_Stamps_of ["cls", "words"] := fun _ _ _ _ _ _ us hl => match us, hl with | [_, _], _ => rfl
theorem ok_of (T : Txt K mg) : Kept P w K mg base CX0 5 (He5.wf K (ga K "Stamps") "classmethod" "of") ["cls", "words"] (spOf K) := by
  refine kept_of T.f_Stamps_of sc_of b_of (fun vs H Q E h => ?_) (fun cdv A outer s H vs Q E hr h => ?_)
  · obtain ⟨c, a, ws, W, rfl, _⟩ := h
    rfl
  · obtain ⟨c, a, ws, W, rfl, ha, ok, q⟩ := h
    refine ⟨_, pss_cons (ps_if (pt_not (pt_val (pe_callC (ok_are T) (hr.mono (by decide)) (by rfl) pass0 (pa_cons (pv 1) pa_nil)))) (pss_one ps_never) pss_nil)
      (pss_one (ps_ret (pe_makeS1 T.mk_Stamps (ok_si T) hr (by rfl) T.g_Stamps pass0 (pv 1)))), ?_⟩
    refine ⟨_, rfl, a, ws, W, rfl, ha, ok, fun H1 s1 => ⟨true, rfl, iteF ?_⟩⟩
    have h6 := ok.few
    refine ⟨_, rfl, a, _, rfl, .inr (SqL.of (s1 _ _ ha)), fun x dx hx hdx nx => ⟨[.ref x], _, rfl, rfl, by rw [List.length_map]; exact Nat.le_of_lt (small1000 (by omega)), fun p hp => ?_⟩⟩
    have sx : Same H1 (upd (upd H1 dx (.own x)) x (.ins (ga K "Stamps") dx [])) := Same.put (same_upd hdx) hx
    refine ⟨x, dx, p, ws, W, rfl, (same_upd hp) _ _ upd_same, upd_same, ok, fun H2 s2 hs => ⟨rfl, q _ x (s1.trans ?_) hs⟩⟩
    exact SameBut.same (sx.trans (same_upd hp)) hx s2
abbrev N_self : List Str := ["self"]
theorem sc_words : FnScope N_self ["self"] (defScope s_Stamps_words) := ⟨rfl, rfl, rfl, by decide +kernel, rfl, by decide +kernel, by decide +kernel⟩
theorem b_words : BindsX "words" "Stamps.words" s_Stamps_words ["self"] := fun _ _ _ _ _ _ us hl => match us, hl with | [_], _ => rfl
theorem ok_words (T : Txt K mg) : PropC P w K mg base CX0 1 (ga K "Stamps") "words" (spWords K) := by
  refine ⟨kept_of T.f_Stamps_words sc_words b_words (fun vs H Q E h => ?_) (fun cdv A outer s H vs Q E hr h => ?_), T.p_Stamps_words⟩
  · obtain ⟨a, ws, rfl, _⟩ := h
    rfl
  · obtain ⟨a, ws, rfl, ⟨dx, l, h1, h2⟩, q⟩ := h
    refine ⟨_, pss_one (ps_ret (pe_callTy call_list_of (by rfl) T.z_list (by decide +kernel) (pa_cons (pe_fld (pv 0) rfl) pa_nil))), ?_⟩
    refine ⟨_, rfl, a, _, dx, _, _, rfl, h1, T.cl_Stamps, T.n_Stamps_held_words, rfl, l, _, rfl, .inl (SqL.of h2), fun p hp => ?_⟩
    exact q _ p (same_upd hp) hp upd_same
theorem sc_width : FnScope N_self ["self"] (defScope s_Stamps_width) := ⟨rfl, rfl, rfl, by decide +kernel, rfl, by decide +kernel, by decide +kernel⟩
theorem b_width : BindsX "width" "Stamps.width" s_Stamps_width ["self"] := fun _ _ _ _ _ _ us hl => match us, hl with | [_], _ => rfl
theorem ok_width (T : Txt K mg) : PropC P w K mg base CX0 1 (ga K "Stamps") "width" (spWidth K) := by
  refine ⟨kept_of T.f_Stamps_width sc_width b_width (fun vs H Q E h => ?_) (fun cdv A outer s H vs Q E hr h => ?_), T.p_Stamps_width⟩
  · obtain ⟨a, ws, W, rfl, _⟩ := h
    rfl
  · obtain ⟨a, ws, W, rfl, ⟨dx, l, h1, h2⟩, ok, q⟩ := h
    refine ⟨_, pss_one (ps_ret (pe_callB call_len_str (by rfl) T.z_len PySem.boot_len (pa_cons (pe_ix ix_list (pe_fld (pv 0) rfl) pe_int (fun _ _ => rfl)) pa_nil))), ?_⟩
    have n1 := ok.ne
    have w8 := ok.w8
    obtain ⟨z, hz⟩ : ∃ z, ws[0]? = some z := ⟨_, List.getElem?_eq_getElem n1⟩
    have lz := ok.len z (List.mem_of_getElem? hz)
    refine ⟨_, rfl, a, _, dx, _, _, rfl, h1, T.cl_Stamps, T.n_Stamps_held_words, rfl, l, _, _, _, rfl, rfl, SqL.of h2, atI_nat (j := 0) (v := .str z) (by rw [List.getElem?_map, hz]; rfl), _, rfl, len_le (by omega), ?_⟩
    rw [lz]
    exact q
abbrev N_bi : List Str := ["self", "stamps"]
theorem sc_bi : FnScope N_bi ["self", "stamps"] (defScope s_Band_init) := ⟨rfl, rfl, rfl, by decide +kernel, rfl, by decide +kernel, by decide +kernel⟩
theorem b_bi : BindsX "__init__" "Band.__init__" s_Band_init ["self", "stamps"] := fun _ _ _ _ _ _ us hl => match us, hl with | [_, _], _ => rfl
theorem ok_bi (T : Txt K mg) (il : Bool) : Kept P w K mg base CX0 3 (ma K (bandC K il) "__init__") ["self", "stamps"] (spBInit K il) := by
  have F : FunX K "__init__" "Band.__init__" s_Band_init (ma K (bandC K il) "__init__") := by
    cases il
    · exact T.f_Window_init
    · exact T.f_Line_init
  have cl : Cls K (bandC K il) := by
    cases il
    · exact T.cl_Window
    · exact T.cl_Line
  have n1 : NoAttr K (bandC K il) "held_stamps" := by
    cases il
    · exact T.n_Window_held_stamps
    · exact T.n_Line_held_stamps
  have n2 : NoAttr K (bandC K il) "inks" := by
    cases il
    · exact T.n_Window_inks
    · exact T.n_Line_inks
  have n3 : NoAttr K (bandC K il) "ink_width" := by
    cases il
    · exact T.n_Window_ink_width
    · exact T.n_Line_ink_width
  refine kept_of F sc_bi b_bi (fun vs H Q E h => ?_) (fun cdv A outer s H vs Q E hr h => ?_)
  · obtain ⟨p, dx, s, ws, W, rfl, _⟩ := h
    rfl
  · obtain ⟨p, dx, t, ws, W, rfl, hp, hs, ok, q⟩ := h
    refine ⟨_, pss_cons (ps_fld (pv 0) (pv 1) rfl) (pss_cons (ps_fld (pv 0) (pe_propC (pv 1) T.cl_Stamps (ok_words T) hr pass0) rfl) (pss_one (ps_fld (pv 0) (pe_propC (pv 1) T.cl_Stamps (ok_width T) hr pass0) rfl))), ?_⟩
    have pt : p ≠ t := fun e => by
      obtain ⟨dy, l, h1, _⟩ := hs
      rw [← e, hp] at h1
      injection h1 with h1
      injection h1 with _ _ h1
      cases h1
    have hs1 : StampsAt K (upd H p (.ins (bandC K il) dx [("held_stamps", .ref t)])) t ws := by
      obtain ⟨dy, l, h1, h2⟩ := hs
      exact ⟨dy, l, by rw [upd_ne pt.symm]; exact h1, by rw [upd_ne (ne_of hp h2 (by intro z; cases z)).symm]; exact h2⟩
    refine ⟨_, rfl, _, rfl, p, _, dx, [], rfl, hp, cl, n1, by decide, ?_⟩
    obtain ⟨dy, l0, hs2⟩ := id hs1
    refine ⟨_, rfl, t, dy, _, rfl, hs2.1, t, ws, rfl, hs1, fun H1 l s1 hl hl1 => ?_⟩
    have hp1 := s1 _ _ (upd_same (H := H) (a := p) (o := .ins (bandC K il) dx [("held_stamps", .ref t)]))
    have hs3 := hs1.same s1
    have pl : p ≠ l := ne_of hp1 hl1 (by intro z; cases z)
    have hs4 : StampsAt K (upd H1 p (.ins (bandC K il) dx [("held_stamps", .ref t), ("inks", .ref l)])) t ws := by
      obtain ⟨dy, l, h1, h2⟩ := hs3
      exact ⟨dy, l, by rw [upd_ne pt.symm]; exact h1, by rw [upd_ne (ne_of hp1 h2 (by intro z; cases z)).symm]; exact h2⟩
    refine ⟨_, rfl, p, _, dx, _, rfl, hp1, cl, n2, by show 1 < 1000; decide, ?_⟩
    obtain ⟨dy4, l4, hs5⟩ := id hs4
    refine ⟨_, rfl, t, dy4, _, rfl, hs5.1, t, ws, W, rfl, hs4, ok, _, rfl, p, _, dx, _, rfl, upd_same, cl, n3, by show 2 < 1000; decide, ?_⟩
    refine q _ ?_ ⟨dx, t, l, W, upd_same, ?_, ?_⟩
    · exact ((SameBut.upd.trans (Ov.Same.but s1)).trans .upd).trans .upd
    · obtain ⟨dy, l, h1, h2⟩ := hs3
      exact ⟨dy, l, by rw [upd_ne pt.symm, upd_ne pt.symm]; exact h1, by rw [upd_ne (ne_of hp1 h2 (by intro z; cases z)).symm, upd_ne (ne_of hp1 h2 (by intro z; cases z)).symm]; exact h2⟩
    · rw [upd_ne pl.symm, upd_ne pl.symm]
      exact hl1
end
end K42

set_option Elab.async false
set_option linter.all false
set_option maxRecDepth 100000
set_option maxHeartbeats 4000000
namespace K42
open PySem PySem.Spec PyProof.Rows L2 He Ov
/-! ### which letters of the words agree -/
def lw (ws : List Str) (i : Nat) : Str := ws.getD i Str.empty
def cellsW (z : Str) (c n : Nat) : List Nat := (List.range n).filter fun j => decide (z.cps[j]? = some c)
def agrW (i : Nat) (z : Str) (c n : Nat) : List IK := (cellsW z c n).map fun (j : Nat) => ((i : Int), (j : Int))
def agrN (ws : List Str) (c n : Nat) : List IK := (List.range n).flatMap fun i => agrW i (lw ws i) c (lw ws i).cps.size
def agr (ws : List Str) (c : Nat) : List IK := agrN ws c ws.length
theorem agrW_succ (i : Nat) (z : Str) (c n : Nat) : agrW i z c (n + 1) = if z.cps[n]? = some c then agrW i z c n ++ [((i : Int), (n : Int))] else agrW i z c n := by
  unfold agrW cellsW
  rw [List.range_succ, List.filter_append, List.map_append]
  by_cases h : z.cps[n]? = some c
  · rw [if_pos h, List.filter_cons_of_pos (by simpa using h)]; rfl
  · rw [if_neg h, List.filter_cons_of_neg (by simpa using h)]; simp
theorem agrN_succ (ws : List Str) (c n : Nat) : agrN ws c (n + 1) = agrN ws c n ++ agrW n (lw ws n) c (lw ws n).cps.size := by
  unfold agrN
  rw [List.range_succ, List.flatMap_append]; simp
theorem keys_snoc {H : Hp} {ks : List IK} {qs : List Addr} {k : IK} {q : Addr} (h : KeysAt H ks qs) (hq : H q = some (.tup [V.int k.1, V.int k.2])) : KeysAt H (ks ++ [k]) (qs ++ [q]) := by
  induction h with
  | nil => exact .cons hq .nil
  | cons r t ih => exact .cons r ih
theorem keys_append {H : Hp} {ks ks' : List IK} {qs qs' : List Addr} (h : KeysAt H ks qs) (h' : KeysAt H ks' qs') : KeysAt H (ks ++ ks') (qs ++ qs') := by
  induction h with
  | nil => exact h'
  | cons r t ih => exact .cons r ih
theorem keys_same {H H' : Hp} {ks : List IK} {qs : List Addr} (h : KeysAt H ks qs) (s : ∀ q ks, H q = some (.tup ks) → H' q = some (.tup ks)) : KeysAt H' ks qs := by
  induction h with
  | nil => exact .nil
  | cons r t ih => exact .cons (s _ _ r) ih
theorem keys_len {H : Hp} {ks : List IK} {qs : List Addr} (h : KeysAt H ks qs) : qs.length = ks.length := by
  induction h with
  | nil => rfl
  | cons r t ih => simp [ih]
/-- a change at a list leaves the tuples -/
theorem tup_upd {H : Hp} {p : Addr} {o : HO} {xs : List V} (h : H p = some (.lst xs)) : ∀ q ks, H q = some (.tup ks) → upd H p o q = some (.tup ks) := fun q ks e => by
  rw [upd_ne (ne_of e h (by intro z; cases z))]; exact e
theorem agrW_len (i : Nat) (z : Str) (c n : Nat) : (agrW i z c n).length ≤ n := by
  unfold agrW cellsW
  rw [List.length_map]
  exact Nat.le_trans (List.length_filter_le _ _) (by rw [List.length_range]; exact Nat.le_refl _)
theorem agrN_len {ws : List Str} {W c : Nat} (h : ∀ w ∈ ws, w.length = W) : ∀ n, n ≤ ws.length → (agrN ws c n).length ≤ W * n
  | 0, _ => by unfold agrN; simp
  | n + 1, hn => by
    rw [agrN_succ, List.length_append]
    have ih := agrN_len (c := c) h n (by omega)
    have e : lw ws n = ws[n] := by unfold lw; rw [List.getD_eq_getElem?_getD, List.getElem?_eq_getElem (by omega)]; rfl
    have l := h ws[n] (List.getElem_mem _)
    have g := agrW_len n (lw ws n) c (lw ws n).cps.size
    rw [e] at g ⊢
    have l2 : ws[n].cps.size = W := l
    rw [Nat.mul_succ]
    omega
/-- a list of pairs stands at p -/
def PairsAt (H : Hp) (p : Addr) (ks : List IK) : Prop := ∃ qs, H p = some (.lst (qs.map V.ref)) ∧ KeysAt H ks qs
theorem PairsAt.same {H H' : Hp} {p : Addr} {ks : List IK} (h : PairsAt H p ks) (s : Same H H') : PairsAt H' p ks := let ⟨qs, h1, h2⟩ := h; ⟨qs, s _ _ h1, keys_same h2 fun q k e => s _ _ e⟩
def gridF (l : Addr) (il : Bool) (z : Str) (W : Nat) : List (Str × V) := [("own_words", .ref l), ("is_line", .bl il), ("letters", .str z), ("last_offset", .int ((W : Int) - 1))]
def GridAt (K : PySem.W.Frag) (H : Hp) (g : Addr) (ws : List Str) (W : Nat) (il : Bool) (z : Str) : Prop := ∃ dx l, H g = some (.ins (ga K "Grid") dx (gridF l il z W)) ∧ H l = some (.lst (ws.map V.str))
theorem GridAt.same {K : PySem.W.Frag} {H H' : Hp} {g : Addr} {ws : List Str} {W : Nat} {il : Bool} {z : Str} (h : GridAt K H g ws W il z) (s : Same H H') : GridAt K H' g ws W il z := let ⟨dx, l, h1, h2⟩ := h; ⟨dx, l, s _ _ h1, s _ _ h2⟩
def spAgr (K : PySem.W.Frag) : Sp := fun vs H Q _ => ∃ (g : Addr) (ws : List Str) (W : Nat) (il : Bool) (z : Str) (j c : Nat), vs = [.ref g, .int j] ∧ GridAt K H g ws W il z ∧ WordsOk ws W ∧ z.length ≤ 1000 ∧ z.cps[j]? = some c ∧
  ∀ H' p, Same H H' → H p = none → PairsAt H' p (agr ws c) → Q (.ref p) H'
section
variable {P : Program} {w : World} {K : PySem.W.Frag} {mg : Str → Option Value} {base : Heap}
abbrev N_agr : List Str := ["self", "cell", "found", "word", "letters", "offset", "letter"]
theorem sc_agr : FnScope N_agr ["self", "cell"] (defScope s_Grid_agreeing) := ⟨rfl, rfl, rfl, by decide +kernel, rfl, by decide +kernel, by decide +kernel⟩
theorem b_agr : BindsX "agreeing" "Grid.agreeing" s_Grid_agreeing ["self", "cell"] := fun _ _ _ _ _ _ us hl => match us, hl with | [_, _], _ => rfl
theorem ok_agr (T : Txt K mg) : MethC P w K mg base CX0 1 (ga K "Grid") "agreeing" ["self", "cell"] (spAgr K) := by
  refine ⟨kept_of T.f_Grid_agreeing sc_agr b_agr (fun vs H Q E h => ?_) (fun cdv A outer s H vs Q E hr h => ?_), T.m_Grid_agreeing⟩
  · obtain ⟨g, ws, W, il, z, j, c, rfl, _⟩ := h
    rfl
  · obtain ⟨g, ws, W, il, z, j, c, rfl, hg, ok, lz, hc, q⟩ := h
    refine ⟨_, pss_cons (ps_set (i := 2) sc_agr.nd rfl (.inl rfl) (pe_lst pa_nil))
      (pss_cons (ps_for PassesOwn.never rfl (pi_enum (by rfl) T.z_enumerate (pa_cons (pe_fld (pv 0) rfl) pa_nil)) (pg_tup rfl (pgs_cons (pg_name (i := 3) sc_agr.nd rfl (.inr rfl)) (pgs_cons (pg_name (i := 4) sc_agr.nd rfl (.inl rfl)) pgs_nil)))
        (pss_one (ps_expr (pe_bm PySem.F.plainAttrs_list PySem.F.slot_list_extend PySem.F.type_list_extend mt_extend (pv 2) (pa_cons (pe_lc (own := [("offset", 5), ("letter", 6)]) (g := gTup K 2 (gCons (gName 5) (gCons (gName 6) gNil))) (tt := tTest (tOp rEq (tVar 6) (tOp rIxS (tFld K (tVar 0) "letters") (tVar 1)))) rfl sc_agr.nd (pi_enumS (by rfl) T.z_enumerate (pa_cons (pv 4) pa_nil)) (blkOk_by (N := N_agr) (sc := defScope s_Grid_agreeing) (by decide +kernel)) (fun _ _ _ _ _ => pg_tup rfl (pgs_cons (pg_name (i := 5) sc_agr.nd rfl (.inl rfl)) (pgs_cons (pg_name (i := 6) sc_agr.nd rfl (.inl rfl)) pgs_nil))) (fun _ _ _ _ _ => pts_one (pt_cmpR op_eq (pv 6) (pe_ix ix_str (pe_fld (pv 0) rfl) (pv 1) (fun _ _ => rfl)) (nomark _))) (fun _ _ _ _ _ => pe_tup (pa_cons (pv 3) (pa_cons (pv 5) pa_nil)))) pa_nil)))))
      (pss_one (ps_ret (pv 2)))), ?_⟩
    obtain ⟨dx, l, hg1, hl⟩ := hg
    refine ⟨by show 0 ≤ sizeLine; decide, fun p np => ?_⟩
    have hg2 := (same_upd (o := .lst []) np) _ _ hg1
    have hl2 := (same_upd (o := .lst []) np) _ _ hl
    refine ⟨_, rfl, g, _, dx, _, _, rfl, hg2, T.cl_Grid, T.n_Grid_own_words, rfl, l, _, rfl, SqL.of hl2, ?_⟩
    refine for_it walk_enum (fun i σ H' => (∃ wv lv, σ = [some (.ref g), some (.int j), some (.ref p), wv, lv, none, none]) ∧ Same H H' ∧ PairsAt H' p (agrN ws c i)) ⟨⟨_, _, rfl⟩, same_upd np, [], upd_same, .nil⟩ (fun i σ H' _ h => SqL.of (h.2.1 _ _ hl)) ?_ ?_
    · rintro i x σ H1 H2 hi ⟨⟨wv, lv, rfl⟩, s1, qs, h1, hk⟩ ⟨T0, x0, y0, rfl, nT, rfl, e0, e1⟩
      have e0' := Option.some.inj e0
      subst e0'
      have e1 : (ws.map V.str)[i]? = some y0 := e1
      rw [List.getElem?_map] at e1
      obtain ⟨z1, hz1, rfl⟩ := Option.map_eq_some_iff.mp e1
      have il1 : i < ws.length := (List.getElem?_eq_some_iff.mp hz1).1
      have ew : lw ws i = z1 := by unfold lw; rw [List.getD_eq_getElem?_getD, hz1]; rfl
      have lz1 := ok.len z1 (List.mem_of_getElem? hz1)
      have w8 := ok.w8
      have s2 : Same H (upd H1 T0 (.tup [.int (i : Nat), .str z1])) := s1.trans (same_upd nT)
      have h2 := (same_upd (o := .tup [.int (i : Nat), .str z1]) nT) _ _ h1
      have hk2 : KeysAt (upd H1 T0 (.tup [.int (i : Nat), .str z1])) (agrN ws c i) qs := keys_same hk fun q k e => (same_upd nT) _ _ e
      have hT0 := upd_same (H := H1) (a := T0) (o := .tup [.int (i : Nat), .str z1])
      generalize upd H1 T0 (.tup [.int (i : Nat), .str z1]) = H2 at s2 h2 hk2 hT0
      refine ⟨T0, _, rfl, SqT.of hT0, rfl, _, _, rfl, _, _, rfl, rfl, _, rfl, .inl ⟨rfl, _, SqL.of h2⟩, _, rfl, z1, rfl, fun D hD => ?_⟩
      refine lc_it walk_enumS (fun n H' => Same H2 H' ∧ PairsAt H' D (agrW i z1 c n)) ⟨same_upd hD, [], upd_same, .nil⟩ (fun _ _ _ _ => trivial) ?_ ?_
      · rintro n x H3 H4 hn ⟨s3, qs3, h3, hk3⟩ ⟨T1, c1, rfl, nT1, hc1, rfl⟩
        have s4 : Same H2 (upd H3 T1 (.tup [.int (n : Nat), .str ⟨#[c1]⟩])) := s3.trans (same_upd nT1)
        have hT1 := upd_same (H := H3) (a := T1) (o := .tup [.int (n : Nat), .str ⟨#[c1]⟩])
        have h4 := (same_upd (o := .tup [.int (n : Nat), .str ⟨#[c1]⟩]) nT1) _ _ h3
        have hk4 := keys_same hk3 fun q k e => (same_upd (o := .tup [.int (n : Nat), .str ⟨#[c1]⟩]) nT1) _ _ e
        generalize upd H3 T1 (.tup [.int (n : Nat), .str ⟨#[c1]⟩]) = H4 at s4 hT1 h4 hk4
        refine ⟨T1, _, rfl, SqT.of hT1, rfl, _, _, rfl, _, _, rfl, rfl, rfl, ?_⟩
        refine ⟨_, rfl, _, rfl, g, _, dx, _, _, rfl, s4 _ _ (s2 _ _ hg1), T.cl_Grid, T.n_Grid_letters, rfl, _, rfl, z, _, c, rfl, rfl, len_le lz, atI_nat (by rw [Array.getElem?_toList]; exact hc), rfl, _, rfl, ?_⟩
        by_cases ec : c1 = c
        · subst ec
          rw [decide_eq_true rfl]
          refine iteT ⟨_, rfl, _, rfl, by show 2 ≤ sizeLine; decide, fun r nr => ⟨_, (same_upd nr) _ _ h4, ?_, ?_, qs3 ++ [r], ?_, ?_⟩⟩
          · rw [List.length_map, keys_len hk4]
            have g1 := agrW_len i z1 c1 n
            have g2 : z1.cps.size = W := lz1
            exact small1000 (by omega)
          · exact Same.put (s4.trans (same_upd nr)) hD
          · rw [upd_same, List.map_append]; rfl
          · rw [agrW_succ, if_pos hc1]
            have h4r := (same_upd (o := .tup [V.int (i : Nat), V.int (n : Nat)]) nr) _ _ h4
            refine keys_same (keys_snoc (k := ((i : Int), (n : Int))) (keys_same hk4 fun q k e => (same_upd nr) _ _ e) upd_same) (tup_upd h4r)
        · have ne : ¬ (V.str ⟨#[c1]⟩ = V.str ⟨#[c]⟩) := fun e => ec (by injection e with e; injection e with e; simpa using e)
          rw [decide_eq_false ne]
          refine iteF ⟨s4, qs3, h4, ?_⟩
          rw [agrW_succ, if_neg (by rw [hc1]; intro e; exact ec (Option.some.inj e))]
          exact hk4
      · rintro H3 ⟨s3, qs3, h3, hk3⟩
        have h5 := s3 _ _ h2
        have lk := keys_len hk3
        have l1 := agrW_len i z1 c z1.cps.size
        have l2 := agrN_len (c := c) ok.len i (by omega)
        have l3 := keys_len hk
        have w36 := ok.all
        have lz1' : z1.cps.size = W := lz1
        have wi : W * i ≤ W * ws.length := Nat.mul_le_mul_left _ (by omega)
        refine ⟨p, D, _, _, rfl, rfl, h5, h3, by rw [List.length_map, List.length_map]; exact Nat.le_of_lt (small1000 (by omega)), ⟨⟨_, _, rfl⟩, ?_, qs ++ qs3, ?_, ?_⟩⟩
        · exact SameBut.same (s2.trans s3) np .upd
        · rw [upd_same, List.map_append]
        · rw [agrN_succ, ew]
          exact keys_same (keys_append (keys_same hk2 fun q k e => s3 _ _ e) hk3) (tup_upd h5)
    · rintro σ H1 ⟨⟨wv, lv, rfl⟩, s1, qs, h1, hk⟩
      rw [List.length_map] at hk
      exact ⟨_, rfl, q _ p s1 np ⟨qs, h1, hk⟩⟩
end
end K42

set_option Elab.async false
set_option linter.all false
set_option maxRecDepth 100000
set_option maxHeartbeats 4000000
namespace K42
open PySem PySem.Spec PyProof.Rows L2 He Ov
def fstK (il : Bool) (ks : List IK) : List IK := ks.filter fun k => decide (k.2 = 0) || !il
def spFirst (K : PySem.W.Frag) : Sp := fun vs H Q _ => ∃ (g : Addr) (ws : List Str) (W : Nat) (il : Bool) (z : Str) (c : Nat), vs = [.ref g] ∧ GridAt K H g ws W il z ∧ WordsOk ws W ∧ z.length ≤ 1000 ∧ z.cps[0]? = some c ∧
  ∀ H' p, Same H H' → H p = none → PairsAt H' p (fstK il (agr ws c)) → Q (.ref p) H'
def spGInit (K : PySem.W.Frag) : Sp := fun vs H Q _ => ∃ (p dx b : Addr) (ws : List Str) (W : Nat) (il : Bool) (z : Str), vs = [.ref p, .ref b, .str z] ∧ H p = some (.ins (ga K "Grid") dx []) ∧ BandAt K H b ws il ∧ WordsOk ws W ∧
  ∀ H', SameBut p H H' → GridAt K H' p ws W il z → Q .non H'
def spLAgr (K : PySem.W.Frag) : Sp := fun vs H Q _ => ∃ (a : Addr) (ws : List Str) (W c : Nat), vs = [.ref a, .str ⟨#[c]⟩] ∧ H a = some (.lst (ws.map V.str)) ∧ WordsOk ws W ∧ ∀ H' p, Same H H' → H p = none → PairsAt H' p (agr ws c) → Q (.ref p) H'
section
variable {P : Program} {w : World} {K : PySem.W.Frag} {mg : Str → Option Value} {base : Heap}
abbrev N_nm : List Str := ["cls", "name", "stamps"]
theorem sc_nm : FnScope N_nm ["cls", "name", "stamps"] (defScope s_Band_named) := ⟨rfl, rfl, rfl, by decide +kernel, rfl, by decide +kernel, by decide +kernel⟩
theorem b_nm : BindsX "named" "Band.named" s_Band_named ["cls", "name", "stamps"] := fun _ _ _ _ _ _ us hl => match us, hl with | [_, _, _], _ => rfl
theorem mk_band (T : Txt K mg) : MakeC P w K mg base CX0 3 "Line" (ga K "Line") ["self", "stamps"] (spBInit K true) ∧ MakeC P w K mg base CX0 3 "Window" (ga K "Window") ["self", "stamps"] (spBInit K false) :=
  ⟨⟨ok_bi T true, T.mk_Line, T.g_Line⟩, ⟨ok_bi T false, T.mk_Window, T.g_Window⟩⟩
theorem ok_nm (T : Txt K mg) : Kept P w K mg base CX0 5 (He5.wf K (ga K "Band") "classmethod" "named") ["cls", "name", "stamps"] (spNamed K) := by
  refine kept_of T.f_Band_named sc_nm b_nm (fun vs H Q E h => ?_) (fun cdv A outer s H vs Q E hr h => ?_)
  · obtain ⟨c, t, il, ws, W, rfl, _⟩ := h
    rfl
  · obtain ⟨c, t, il, ws, W, rfl, hs, ok, q⟩ := h
    obtain ⟨uL, cvL⟩ := T.cv_Line_NAME
    obtain ⟨uW, cvW⟩ := T.cv_Window_NAME
    refine ⟨_, pss_cons (ps_if (pt_cmpR op_eq (pv 1) (ClX.pe_cval (pe_glob (v := .ref (ga K "Line")) (by rfl) T.g_Line rfl)) (nomark _)) (pss_one (ps_ret (pe_makeC (mk_band T).1 hr (by rfl) pass0 (pa_cons (pv 2) pa_nil)))) pss_nil)
      (pss_cons (ps_if (pt_cmpR op_eq (pv 1) (ClX.pe_cval (pe_glob (v := .ref (ga K "Window")) (by rfl) T.g_Window rfl)) (nomark _)) (pss_one (ps_ret (pe_makeC (mk_band T).2 hr (by rfl) pass0 (pa_cons (pv 2) pa_nil)))) pss_nil)
      pss_never), ?_⟩
    have fin : ∀ x dx : Addr, H x = none → H dx = none → dx ≠ x → spBInit K il [.ref x, .ref t] (upd (upd H dx (.own x)) x (.ins (bandC K il) dx [])) (fun v H2 => v = .non ∧ Q (.ref x) H2) E := fun x dx hx hdx nx => by
      have sx : Same H (upd (upd H dx (.own x)) x (.ins (bandC K il) dx [])) := Same.put (same_upd hdx) hx
      exact ⟨x, dx, t, ws, W, rfl, upd_same, hs.same sx, ok, fun H2 s2 hb => ⟨rfl, q _ x (SameBut.same sx hx s2) hb⟩⟩
    cases il with
    | true =>
      refine ⟨_, rfl, _, _, _, _, rfl, T.r_Line, cvL, rfl, _, rfl, ?_⟩
      rw [decide_eq_true (show V.str (bandN true) = V.str "line" from rfl)]
      exact iteT ⟨_, rfl, fun x dx hx hdx nx => fin x dx hx hdx nx⟩
    | false =>
      refine ⟨_, rfl, _, _, _, _, rfl, T.r_Line, cvL, rfl, _, rfl, ?_⟩
      rw [decide_eq_false (show ¬ V.str (bandN false) = V.str "line" by decide)]
      refine iteF ⟨_, rfl, _, _, _, _, rfl, T.r_Window, cvW, rfl, _, rfl, ?_⟩
      rw [decide_eq_true (show V.str (bandN false) = V.str "window" from rfl)]
      exact iteT ⟨_, rfl, fun x dx hx hdx nx => fin x dx hx hdx nx⟩
theorem sc_st : FnScope N_self ["self"] (defScope s_Band_stamps) := ⟨rfl, rfl, rfl, by decide +kernel, rfl, by decide +kernel, by decide +kernel⟩
theorem b_st : BindsX "stamps" "Band.stamps" s_Band_stamps ["self"] := fun _ _ _ _ _ _ us hl => match us, hl with | [_], _ => rfl
theorem cl_band (T : Txt K mg) (il : Bool) : Cls K (bandC K il) := by
  cases il
  · exact T.cl_Window
  · exact T.cl_Line
theorem ok_st (T : Txt K mg) (il : Bool) : PropC P w K mg base CX0 1 (bandC K il) "stamps" (spStamps K il) := by
  have F : FunX K "stamps" "Band.stamps" s_Band_stamps (gp K (bandC K il) "stamps") := by
    cases il
    · exact T.f_Window_stamps
    · exact T.f_Line_stamps
  have n1 : NoAttr K (bandC K il) "held_stamps" := by
    cases il
    · exact T.n_Window_held_stamps
    · exact T.n_Line_held_stamps
  refine ⟨kept_of F sc_st b_st (fun vs H Q E h => ?_) (fun cdv A outer s H vs Q E hr h => ?_), ?_⟩
  · obtain ⟨b, ws, rfl, _⟩ := h
    rfl
  · obtain ⟨b, ws, rfl, hb, q⟩ := h
    obtain ⟨dx, t, l, W, h1, h2, h3⟩ := hb.at_
    refine ⟨_, pss_one (ps_ret (pe_fld (pv 0) rfl)), ?_⟩
    exact ⟨_, rfl, b, _, dx, _, _, rfl, h1, cl_band T il, n1, rfl, q t h2⟩
  · cases il
    · exact T.p_Window_stamps
    · exact T.p_Line_stamps
abbrev N_pl : List Str := ["thing", "letter"]
theorem sc_pl : FnScope N_pl ["thing"] (defScope s_is_plain_text) := ⟨rfl, rfl, rfl, by decide +kernel, rfl, by decide +kernel, by decide +kernel⟩
theorem b_pl : BindsX "is_plain_text" "is_plain_text" s_is_plain_text ["thing"] := fun _ _ _ _ _ _ us hl => match us, hl with | [_], _ => rfl
theorem ok_pl (T : Txt K mg) : CallC P w K mg base CX0 1 "is_plain_text" ["thing"] spPlain := by
  refine ⟨kept_of T.f_is_plain_text sc_pl b_pl (fun vs H Q E h => ?_) (fun cdv A outer s H vs Q E hr h => ?_), T.g_is_plain_text, keep T.f_is_plain_text⟩
  · obtain ⟨z, rfl, _⟩ := h
    rfl
  · obtain ⟨z, rfl, ⟨z1, z2, z3⟩, q⟩ := h
    refine ⟨_, pss_cons (ps_if (PW.pt (pw_or (pt_not (pt_val (pe_callB call_isi (by rfl) T.z_isinstance (by decide +kernel) (pa_cons (pv 0) (pa_cons (pe_bty (n := "str") (by rfl) T.z_str) pa_nil)))))
        (pw_or1 (pt_not (pt_chain op_le op_le pe_int (pe_callB call_len_str (by rfl) T.z_len PySem.boot_len (pa_cons (pv 0) pa_nil)) (pe_gint (by rfl) T.c_MOST_CELLS_tables)))))) (pss_one ps_never) pss_nil)
      (pss_one (ps_ret (pe_callB (cr_all rfl) (by rfl) T.z_all (by decide +kernel) (pa_cons (pe_lc (own := [("letter", 1)]) rfl sc_pl.nd (pi_str (pv 0)) (blkOk_by (N := N_pl) (sc := defScope s_is_plain_text) (by decide +kernel))
        (fun _ _ _ _ _ => pg_name (i := 1) sc_pl.nd rfl (.inl rfl)) (fun _ _ _ _ _ => pts_nil) (fun _ _ _ _ _ => pe_cmpR op_in_sign (pv 1) (pe_gstr (by rfl) T.c_LETTERS_tables) (by rfl))) pa_nil)))), ?_⟩
    refine ⟨_, rfl, _, _, _, _, true, rfl, .ty "str", .base (.str z), kit_ty (by decide +kernel), true, rfl, iteF ?_⟩
    refine ⟨_, rfl, _, rfl, len_le (by omega), _, _, rfl, rfl, _, rfl, ?_⟩
    rw [decide_eq_true (by omega : (1 : Int) ≤ (z.length : Nat))]
    refine iteT ⟨_, _, rfl, rfl, true, congrArg V.bl (decide_eq_true (by omega)), iteF ?_⟩
    refine ⟨_, rfl, z, rfl, fun D hD => ?_⟩
    refine lc_it walk_str (fun i H' => Same H H' ∧ H' D = some (.lst ((List.replicate i true).map V.bl))) ⟨Same.put (.refl _) hD, upd_same⟩ (fun _ _ _ _ => trivial) ?_ ?_
    · rintro i x H1 H2 hi ⟨hs, hd⟩ ⟨rfl, c, hc, rfl⟩
      refine ⟨rfl, lcY ⟨_, rfl, c, ABC, rfl, rfl, _, hd, ?_, ?_, ?_⟩⟩
      · simp only [List.length_map, List.length_replicate]
        exact small1000 (by have : i < z.length := hi
                            omega)
      · exact Same.put hs hD
      · rw [upd_same, decide_eq_true (z3 c (by rw [← Array.getElem?_toList] at hc; exact List.mem_of_getElem? hc)), snoc_true]
    · rintro H1 ⟨hs, hd⟩
      refine ⟨_, _, rfl, SqL.of hd, ?_⟩
      rw [all_rep]
      exact q _ hs
abbrev N_tx : List Str := ["text"]
theorem sc_need : FnScope N_tx ["text"] (defScope s_need_text) := ⟨rfl, rfl, rfl, by decide +kernel, rfl, by decide +kernel, by decide +kernel⟩
theorem b_need : BindsX "need_text" "need_text" s_need_text ["text"] := fun _ _ _ _ _ _ us hl => match us, hl with | [_], _ => rfl
theorem ok_need (T : Txt K mg) : CallC P w K mg base CX0 2 "need_text" ["text"] spNeed := by
  refine ⟨kept_of T.f_need_text sc_need b_need (fun vs H Q E h => ?_) (fun cdv A outer s H vs Q E hr h => ?_), T.g_need_text, keep T.f_need_text⟩
  · obtain ⟨z, rfl, _⟩ := h
    rfl
  · obtain ⟨z, rfl, hz, q⟩ := h
    refine ⟨_, pss_one (ps_if (pt_not (pt_val (pe_callC (ok_pl T) hr (by rfl) pass0 (pa_cons (pv 0) pa_nil)))) (pss_one ps_never) pss_nil), ?_⟩
    exact ⟨_, rfl, z, rfl, hz, fun H1 s1 => ⟨true, rfl, iteF (q _ s1)⟩⟩
end
end K42

set_option Elab.async false
set_option linter.all false
set_option maxRecDepth 100000
set_option maxHeartbeats 4000000
namespace K42
open PySem PySem.Spec PyProof.Rows L2 He Ov
theorem keys_get {H : Hp} : ∀ {ks : List IK} {qs : List Addr} {n : Nat} {q : Addr}, KeysAt H ks qs → qs[n]? = some q → ∃ k, ks[n]? = some k ∧ H q = some (.tup [V.int k.1, V.int k.2])
  | _, _, _, _, .nil, e => by simp at e
  | _, _, 0, _, .cons r t, e => ⟨_, rfl, by simp at e; exact e ▸ r⟩
  | _, _, n + 1, _, .cons r t, e => by
    obtain ⟨k, h1, h2⟩ := keys_get (n := n) t (by simpa using e)
    exact ⟨k, by simpa using h1, h2⟩
section
variable {P : Program} {w : World} {K : PySem.W.Frag} {mg : Str → Option Value} {base : Heap}
abbrev N_gi : List Str := ["self", "band", "text"]
theorem sc_gi : FnScope N_gi ["self", "band", "text"] (defScope s_Grid_init) := ⟨rfl, rfl, rfl, by decide +kernel, rfl, by decide +kernel, by decide +kernel⟩
theorem b_gi : BindsX "__init__" "Grid.__init__" s_Grid_init ["self", "band", "text"] := fun _ _ _ _ _ _ us hl => match us, hl with | [_, _, _], _ => rfl
theorem con_band (T : Txt K mg) (il : Bool) : ∃ u, Con K (bandC K il) "NAME" (.str (bandN il)) u := by
  cases il
  · exact T.k_Window_NAME
  · exact T.k_Line_NAME
theorem ok_gi (T : Txt K mg) : MakeC P w K mg base CX0 3 "Grid" (ga K "Grid") ["self", "band", "text"] (spGInit K) := by
  refine ⟨kept_of T.f_Grid_init sc_gi b_gi (fun vs H Q E h => ?_) (fun cdv A outer s H vs Q E hr h => ?_), T.mk_Grid, T.g_Grid⟩
  · obtain ⟨p, dx, b, ws, W, il, z, rfl, _⟩ := h
    rfl
  · obtain ⟨p, dx, b, ws, W, il, z, rfl, hp, hb, ok, q⟩ := h
    obtain ⟨uc, con⟩ := con_band T il
    refine ⟨_, pss_cons (ps_fld (pv 0) (pe_propC (pe_propC (pv 1) (cl_band T il) (ok_st T il) hr pass0) T.cl_Stamps (ok_words T) hr pass0) rfl)
      (pss_cons (ps_fld (pv 0) (pe_cmpR op_eq (pe_con (pv 1) rfl) (pe_gstr (by rfl) T.c_LINE) (nomark _)) rfl)
      (pss_cons (ps_fld (pv 0) (pv 2) rfl)
      (pss_one (ps_fld (pv 0) (pe_op op_sub (pe_callB call_len_str (by rfl) T.z_len PySem.boot_len (pa_cons (pe_ix ix_list (pe_fld (pv 0) rfl) pe_int (fun _ _ => rfl)) pa_nil)) pe_int) rfl)))), ?_⟩
    obtain ⟨db, t, l0, W0, hb1, hb2, hb3⟩ := hb.at_
    obtain ⟨ds, ls, hs1, hs2⟩ := id hb2
    have n1 := ok.ne
    have w8 := ok.w8
    refine ⟨_, rfl, b, db, _, rfl, hb1, b, ws, rfl, hb, fun t' ht' => ?_⟩
    obtain ⟨ds', ls', hs1', hs2'⟩ := id ht'
    refine ⟨t', ds', _, rfl, hs1', t', ws, rfl, ht', fun H1 l s1 hl hl1 => ?_⟩
    have hp1 := s1 _ _ hp
    have pl : p ≠ l := ne_of hp1 hl1 (by intro z; cases z)
    have bp : b ≠ p := fun e => by
      rw [e, hp] at hb1
      injection hb1 with hb1
      injection hb1 with _ _ hb1
      cases hb1
    refine ⟨_, rfl, p, _, dx, [], rfl, hp1, T.cl_Grid, T.n_Grid_own_words, by decide, ?_⟩
    have hb2' : upd H1 p (.ins (ga K "Grid") dx [("own_words", .ref l)]) b = some (.ins (bandC K il) db (bandF t l0 W0)) := by rw [upd_ne bp]; exact s1 _ _ hb1
    refine ⟨_, rfl, b, _, db, _, _, _, rfl, hb2', cl_band T il, con, rfl, rfl, _, rfl, p, _, dx, _, rfl, upd_same, T.cl_Grid, T.n_Grid_is_line, by show 1 < 1000; decide, ?_⟩
    have eN : decide (V.str (bandN il) = V.str "line") = il := by cases il <;> decide
    rw [eN]
    refine ⟨_, rfl, _, rfl, p, _, dx, _, rfl, upd_same, T.cl_Grid, T.n_Grid_letters, by show 2 < 1000; decide, ?_⟩
    obtain ⟨z0, hz0⟩ : ∃ z, ws[0]? = some z := ⟨_, List.getElem?_eq_getElem n1⟩
    have lz0 := ok.len z0 (List.mem_of_getElem? hz0)
    refine ⟨_, rfl, p, _, dx, _, _, rfl, upd_same, T.cl_Grid, T.n_Grid_own_words, rfl, l, _, _, _, rfl, rfl, SqL.of ?_, atI_nat (j := 0) (v := .str z0) (by rw [List.getElem?_map, hz0]; rfl), _, rfl, len_le (by omega), _, _, rfl, rfl, _, rfl, p, _, dx, _, rfl, upd_same, T.cl_Grid, T.n_Grid_last_offset, by show 3 < 1000; decide, ?_⟩
    · rw [upd_ne pl.symm, upd_ne pl.symm, upd_ne pl.symm]
      exact hl1
    · rw [lz0]
      refine q _ ?_ ⟨dx, l, upd_same, ?_⟩
      · exact ((((Ov.Same.but s1).trans .upd).trans .upd).trans .upd).trans .upd
      · rw [upd_ne pl.symm, upd_ne pl.symm, upd_ne pl.symm, upd_ne pl.symm]
        exact hl1
abbrev N_fo : List Str := ["self", "word", "offset"]
theorem sc_fo : FnScope N_fo ["self"] (defScope s_Grid_first_ones) := ⟨rfl, rfl, rfl, by decide +kernel, rfl, by decide +kernel, by decide +kernel⟩
theorem b_fo : BindsX "first_ones" "Grid.first_ones" s_Grid_first_ones ["self"] := fun _ _ _ _ _ _ us hl => match us, hl with | [_], _ => rfl
theorem ok_fo (T : Txt K mg) : MethC P w K mg base CX0 2 (ga K "Grid") "first_ones" ["self"] (spFirst K) := by
  refine ⟨kept_of T.f_Grid_first_ones sc_fo b_fo (fun vs H Q E h => ?_) (fun cdv A outer s H vs Q E hr h => ?_), T.m_Grid_first_ones⟩
  · obtain ⟨g, ws, W, il, z, c, rfl, _⟩ := h
    rfl
  · obtain ⟨g, ws, W, il, z, c, rfl, hg, ok, lz, hc, q⟩ := h
    refine ⟨_, pss_one (ps_ret (pe_lc (own := [("word", 1), ("offset", 2)]) (g := gTup K 2 (gCons (gName 1) (gCons (gName 2) gNil))) (tt := tOr (tTest (tOp rEq (tVar 2) (tC (.int 0)))) (tNot (tB (tFld K (tVar 0) "is_line")))) rfl sc_fo.nd
      (pi_list (pe_methC (pv 0) T.cl_Grid (ok_agr T) hr pass0 (pa_cons pe_int pa_nil))) (blkOk_by (N := N_fo) (sc := defScope s_Grid_first_ones) (by decide +kernel))
      (fun _ _ _ _ _ => pg_tup rfl (pgs_cons (pg_name (i := 1) sc_fo.nd rfl (.inl rfl)) (pgs_cons (pg_name (i := 2) sc_fo.nd rfl (.inl rfl)) pgs_nil)))
      (fun _ _ _ _ _ => pts_one (PW.pt (pw_or (pt_cmpR op_eq (pv 2) pe_int (nomark _)) (pw_or1 (pt_not (pt_val (pe_fld (pv 0) rfl)))))))
      (fun _ _ _ _ _ => pe_tup (pa_cons (pv 1) (pa_cons (pv 2) pa_nil))))), ?_⟩
    obtain ⟨dx, l, hg1, hl⟩ := id hg
    refine ⟨_, rfl, g, dx, _, rfl, hg1, rfl, g, ws, W, il, z, 0, c, rfl, hg, ok, lz, hc, fun H1 p s1 np ⟨qs, h1, hk⟩ => ⟨p, rfl, ⟨_, SqL.of h1⟩, fun D hD => ?_⟩⟩
    refine lc_list (K := K) (a := p) (xs := qs.map V.ref) (fun n H' => Same H1 H' ∧ PairsAt H' D (fstK il ((agr ws c).take n))) ⟨same_upd hD, [], upd_same, .nil⟩ (fun _ _ _ h => SqL.of (h.1 _ _ h1)) ?_ ?_
    · rintro n x H2 hx ⟨s2, qs2, h2, hk2⟩
      rw [List.getElem?_map] at hx
      obtain ⟨qa, hqa, rfl⟩ := Option.map_eq_some_iff.mp hx
      obtain ⟨k, hk3, hqt⟩ := keys_get hk hqa
      have ht : H2 qa = some (.tup [.int k.1, .int k.2]) := s2 _ _ hqt
      have hg2 := (s1.trans s2) _ _ hg1
      refine ⟨qa, _, rfl, SqT.of ht, rfl, _, _, rfl, _, _, rfl, rfl, rfl, ?_⟩
      have tk : (agr ws c).take (n + 1) = (agr ws c).take n ++ [k] := by rw [List.take_add_one, hk3]; rfl
      have add : (decide (k.2 = 0) || !il) = true → (tTup (tCons (tVar 1) (tCons (tVar 2) tNil)) [some (.ref g), some (.int k.1), some (.int k.2)] H2 fun y H4 => ∃ acc, H4 D = some (.lst acc) ∧ acc.length < sizeLine ∧ Same H1 (upd H4 D (.lst (acc ++ [y]))) ∧ PairsAt (upd H4 D (.lst (acc ++ [y]))) D (fstK il ((agr ws c).take (n + 1)))) := fun e => by
        refine ⟨_, rfl, _, rfl, by show 2 ≤ sizeLine; decide, fun r nr => ⟨_, (same_upd nr) _ _ h2, ?_, ?_, qs2 ++ [r], ?_, ?_⟩⟩
        · rw [List.length_map, keys_len hk2]
          have g1 : (fstK il ((agr ws c).take n)).length ≤ (agr ws c).length := Nat.le_trans (List.length_filter_le _ _) (by rw [List.length_take]; exact Nat.min_le_right _ _)
          have g2 := agrN_len (c := c) ok.len ws.length (Nat.le_refl _)
          have g3 := ok.all
          have g4 : (agr ws c).length ≤ W * ws.length := g2
          exact small1000 (by omega)
        · exact Same.put (s2.trans (same_upd nr)) hD
        · rw [upd_same, List.map_append]; rfl
        · have e2 : fstK il ((agr ws c).take (n + 1)) = fstK il ((agr ws c).take n) ++ [k] := by
            unfold fstK
            rw [tk, List.filter_append, List.filter_cons_of_pos (by simpa using e)]; rfl
          rw [e2]
          exact keys_same (keys_snoc (k := k) (keys_same hk2 fun q k e => (same_upd nr) _ _ e) upd_same) (tup_upd ((same_upd (o := .tup [V.int k.1, V.int k.2]) nr) _ _ h2))
      refine ⟨_, rfl, rfl, _, rfl, ?_⟩
      by_cases e0 : k.2 = 0
      · rw [decide_eq_true (congrArg V.int e0 : V.int k.2 = V.int 0)]
        exact iteT (iteT (add (by rw [decide_eq_true e0]; rfl)))
      · rw [decide_eq_false (fun e : V.int k.2 = V.int 0 => e0 (by injection e))]
        refine iteF ⟨_, rfl, g, _, dx, _, _, rfl, hg2, T.cl_Grid, T.n_Grid_is_line, rfl, il, rfl, ?_⟩
        cases il with
        | false => exact iteT (add (by simp))
        | true =>
          refine iteF ⟨s2, qs2, h2, ?_⟩
          have e2 : fstK true ((agr ws c).take (n + 1)) = fstK true ((agr ws c).take n) := by
            unfold fstK
            rw [tk, List.filter_append, List.filter_cons_of_neg (by simpa using e0)]; simp
          rw [e2]
          exact hk2
    · rintro H2 ⟨s2, h2⟩
      rw [List.length_map, keys_len hk, List.take_length] at h2
      exact q _ D (s1.trans s2) (s1.free hD) h2
abbrev N_la : List Str := ["words", "letter", "found", "word", "letters", "spot"]
theorem sc_la : FnScope N_la ["words", "letter"] (defScope s__law_agreeing) := ⟨rfl, rfl, rfl, by decide +kernel, rfl, by decide +kernel, by decide +kernel⟩
theorem b_la : BindsX "_law_agreeing" "_law_agreeing" s__law_agreeing ["words", "letter"] := fun _ _ _ _ _ _ us hl => match us, hl with | [_, _], _ => rfl
theorem ok_la (T : Txt K mg) : CallC P w K mg base CX0 1 "_law_agreeing" ["words", "letter"] (spLAgr K) := by
  refine ⟨kept_of T.f__law_agreeing sc_la b_la (fun vs H Q E h => ?_) (fun cdv A outer s H vs Q E hr h => ?_), T.g__law_agreeing, keep T.f__law_agreeing⟩
  · obtain ⟨a, ws, W, c, rfl, _⟩ := h
    rfl
  · obtain ⟨a, ws, W, c, rfl, ha, ok, q⟩ := h
    refine ⟨_, pss_cons (ps_set (i := 2) sc_la.nd rfl (.inl rfl) (pe_lst pa_nil))
      (pss_cons (ps_for PassesOwn.never rfl (pi_enum (by rfl) T.z_enumerate (pa_cons (pv 0) pa_nil)) (pg_tup rfl (pgs_cons (pg_name (i := 3) sc_la.nd rfl (.inr rfl)) (pgs_cons (pg_name (i := 4) sc_la.nd rfl (.inr rfl)) pgs_nil)))
        (pss_one (ps_expr (pe_bm PySem.F.plainAttrs_list PySem.F.slot_list_extend PySem.F.type_list_extend mt_extend (pv 2) (pa_cons (pe_lc (own := [("spot", 5)]) rfl sc_la.nd (pi_range1 (by rfl) T.z_range (pa_cons (pe_callB call_len_str (by rfl) T.z_len PySem.boot_len (pa_cons (pv 4) pa_nil)) pa_nil)) (blkOk_by (N := N_la) (sc := defScope s__law_agreeing) (by decide +kernel))
          (fun _ _ _ _ _ => pg_name (i := 5) sc_la.nd rfl (.inl rfl))
          (fun _ _ _ _ _ => pts_one (pt_cmpR op_eq (pe_ix ix_str (pv 4) (pv 5) (fun _ _ => rfl)) (pv 1) (nomark _)))
          (fun _ _ _ _ _ => pe_tup (pa_cons (pv 3) (pa_cons (pv 5) pa_nil)))) pa_nil)))))
      (pss_one (ps_ret (pv 2)))), ?_⟩
    refine ⟨by show 0 ≤ sizeLine; decide, fun p np => ?_⟩
    have ha2 := (same_upd (o := .lst []) np) _ _ ha
    refine ⟨_, rfl, a, _, rfl, SqL.of ha2, ?_⟩
    refine for_it walk_enum (fun i σ H' => (∃ wv lv, σ = [some (.ref a), some (.str ⟨#[c]⟩), some (.ref p), wv, lv, none]) ∧ Same H H' ∧ PairsAt H' p (agrN ws c i)) ⟨⟨_, _, rfl⟩, same_upd np, [], upd_same, .nil⟩ (fun i σ H' _ h => SqL.of (h.2.1 _ _ ha)) ?_ ?_
    · rintro i x σ H1 H2 hi ⟨⟨wv, lv, rfl⟩, s1, qs, h1, hk⟩ ⟨T0, x0, y0, rfl, nT, rfl, e0, e1⟩
      have e0' := Option.some.inj e0
      subst e0'
      have e1 : (ws.map V.str)[i]? = some y0 := e1
      rw [List.getElem?_map] at e1
      obtain ⟨z1, hz1, rfl⟩ := Option.map_eq_some_iff.mp e1
      have il1 : i < ws.length := (List.getElem?_eq_some_iff.mp hz1).1
      have ew : lw ws i = z1 := by unfold lw; rw [List.getD_eq_getElem?_getD, hz1]; rfl
      have lz1 := ok.len z1 (List.mem_of_getElem? hz1)
      have w8 := ok.w8
      have s2 : Same H (upd H1 T0 (.tup [.int (i : Nat), .str z1])) := s1.trans (same_upd nT)
      have h2 := (same_upd (o := .tup [.int (i : Nat), .str z1]) nT) _ _ h1
      have hk2 : KeysAt (upd H1 T0 (.tup [.int (i : Nat), .str z1])) (agrN ws c i) qs := keys_same hk fun q k e => (same_upd nT) _ _ e
      have hT0 := upd_same (H := H1) (a := T0) (o := .tup [.int (i : Nat), .str z1])
      generalize upd H1 T0 (.tup [.int (i : Nat), .str z1]) = H2 at s2 h2 hk2 hT0
      refine ⟨T0, _, rfl, SqT.of hT0, rfl, _, _, rfl, _, _, rfl, rfl, _, rfl, .inl ⟨rfl, _, SqL.of h2⟩, _, rfl, _, rfl, len_le (by omega), _, rfl, by omega, by omega, fun D hD => ?_⟩
      refine lc_range (lo := 0) (n := z1.cps.size) (fun n H' => Same H2 H' ∧ PairsAt H' D (agrW i z1 c n)) ⟨same_upd hD, [], upd_same, .nil⟩ ?_ ?_
      · rintro n H3 hn ⟨s3, qs3, h3, hk3⟩
        obtain ⟨c1, hc1⟩ : ∃ c1, z1.cps[n]? = some c1 := ⟨_, Array.getElem?_eq_getElem hn⟩
        refine ⟨rfl, ?_⟩
        rw [Int.zero_add]
        refine ⟨_, rfl, _, rfl, z1, _, c1, rfl, rfl, len_le (by omega), atI_nat (by rw [Array.getElem?_toList]; exact hc1), _, rfl, rfl, _, rfl, ?_⟩
        by_cases ec : c1 = c
        · subst ec
          rw [decide_eq_true rfl]
          refine iteT ⟨_, rfl, _, rfl, by show 2 ≤ sizeLine; decide, fun r nr => ⟨_, (same_upd nr) _ _ h3, ?_, ?_, qs3 ++ [r], ?_, ?_⟩⟩
          · rw [List.length_map, keys_len hk3]
            have g1 := agrW_len i z1 c1 n
            have g2 : z1.cps.size = W := lz1
            exact small1000 (by omega)
          · exact Same.put (s3.trans (same_upd nr)) hD
          · rw [upd_same, List.map_append]; rfl
          · rw [agrW_succ, if_pos hc1]
            have h4r := (same_upd (o := .tup [V.int (i : Nat), V.int (n : Nat)]) nr) _ _ h3
            exact keys_same (keys_snoc (k := ((i : Int), (n : Int))) (keys_same hk3 fun q k e => (same_upd nr) _ _ e) upd_same) (tup_upd h4r)
        · have ne : ¬ (V.str ⟨#[c1]⟩ = V.str ⟨#[c]⟩) := fun e => ec (by injection e with e; injection e with e; simpa using e)
          rw [decide_eq_false ne]
          refine iteF ⟨s3, qs3, h3, ?_⟩
          rw [agrW_succ, if_neg (by rw [hc1]; intro e; exact ec (Option.some.inj e))]
          exact hk3
      · rintro H3 ⟨s3, qs3, h3, hk3⟩
        have h5 := s3 _ _ h2
        have lk := keys_len hk3
        have l1 := agrW_len i z1 c z1.cps.size
        have l2 := agrN_len (c := c) ok.len i (by omega)
        have l3 := keys_len hk
        have w36 := ok.all
        have lz1' : z1.cps.size = W := lz1
        have wi : W * i ≤ W * ws.length := Nat.mul_le_mul_left _ (by omega)
        refine ⟨p, D, _, _, rfl, rfl, h5, h3, by rw [List.length_map, List.length_map]; exact Nat.le_of_lt (small1000 (by omega)), ⟨⟨_, _, rfl⟩, ?_, qs ++ qs3, ?_, ?_⟩⟩
        · exact SameBut.same (s2.trans s3) np .upd
        · rw [upd_same, List.map_append]
        · rw [agrN_succ, ew]
          exact keys_same (keys_append (keys_same hk2 fun q k e => s3 _ _ e) hk3) (tup_upd h5)
    · rintro σ H1 ⟨⟨wv, lv, rfl⟩, s1, qs, h1, hk⟩
      rw [List.length_map] at hk
      exact ⟨_, rfl, q _ p s1 np ⟨qs, h1, hk⟩⟩
end
end K42

set_option Elab.async false
set_option linter.all false
set_option maxRecDepth 100000
set_option maxHeartbeats 4000000
namespace K42
open PySem PySem.Spec PyProof.Rows L2 He Ov
/-! ### the least of some numbers -/
def minO : List Int → Option Int
  | [] => none
  | x :: r => match minO r with
    | none => some x
    | some y => some (if x ≤ y then x else y)
theorem minO_none : ∀ {ns : List Int}, minO ns = none → ns = []
  | [], _ => rfl
  | x :: r, h => by
    unfold minO at h
    split at h <;> cases h
theorem minO_some : ∀ {ns : List Int} {m : Int}, minO ns = some m → m ∈ ns ∧ ∀ y ∈ ns, m ≤ y
  | [], _, h => by cases h
  | x :: r, m, h => by
    unfold minO at h
    split at h
    · rename_i e
      cases h
      rw [minO_none e]
      exact ⟨List.mem_cons_self, fun y hy => by rcases List.mem_cons.mp hy with z | z; · omega
                                                · cases z⟩
    · rename_i y e
      obtain ⟨h1, h2⟩ := minO_some e
      cases h
      by_cases c : x ≤ y
      · rw [if_pos c]
        refine ⟨List.mem_cons_self, fun z hz => ?_⟩
        rcases List.mem_cons.mp hz with q | q
        · omega
        · have := h2 z q
          omega
      · rw [if_neg c]
        refine ⟨List.mem_cons_of_mem _ h1, fun z hz => ?_⟩
        rcases List.mem_cons.mp hz with q | q
        · omega
        · exact h2 z q
theorem minO_of {ns : List Int} {m : Int} (h : m ∈ ns) (hle : ∀ y ∈ ns, m ≤ y) : minO ns = some m := by
  cases e : minO ns with
  | none => rw [minO_none e] at h; cases h
  | some k =>
    obtain ⟨h1, h2⟩ := minO_some e
    have a := hle k h1
    have b := h2 m h
    rw [show k = m by omega]
theorem minO_congr {xs ys : List Int} (h : ∀ x, x ∈ xs ↔ x ∈ ys) : minO xs = minO ys := by
  cases e : minO ys with
  | none =>
    have z := minO_none e
    subst z
    cases xs with
    | nil => rfl
    | cons x r => exact absurd ((h x).mp List.mem_cons_self) (by simp)
  | some k =>
    obtain ⟨h1, h2⟩ := minO_some e
    exact minO_of ((h k).mpr h1) fun y hy => h2 y ((h y).mp hy)
/-! ### bounds by (word, offset) -/
abbrev Bs := List (IK × Int)
def encB (m : Bs) : List (List Key × V) := encT (m.map fun e => (e.1, V.int e.2))
def valB (m : Bs) (k : IK) : Option Int := (m.find? fun e => decide (e.1 = k)).map (·.2)
theorem encB_len (m : Bs) : (encB m).length = m.length := by unfold encB encT; simp
theorem encB_snoc (m : Bs) (k : IK) (b : Int) : encB (m ++ [(k, b)]) = encB m ++ [(kT k, V.int b)] := by unfold encB encT; simp
theorem encB_get {m : Bs} {i : Nat} {k : List Key} {v : V} (h : (encB m)[i]? = some (k, v)) : ∃ e, m[i]? = some e ∧ k = kT e.1 ∧ v = V.int e.2 := by
  unfold encB encT at h
  rw [List.getElem?_map, List.getElem?_map] at h
  cases q : m[i]? with
  | none => rw [q] at h; cases h
  | some e =>
    rw [q] at h
    have h := Option.some.inj h
    exact ⟨e, rfl, (congrArg Prod.fst h).symm, (congrArg Prod.snd h).symm⟩
theorem val_enc (k : IK) : ∀ m : Bs, valV (encB m) (kT k) = (valB m k).map V.int
  | [] => rfl
  | e :: r => by
    have ih := val_enc k r
    unfold valV valB encB encT at *
    simp only [List.map_cons, List.find?_cons]
    by_cases c : e.1 = k
    · subst c; simp
    · have c2 : ¬ kT e.1 = kT k := fun z => c (kT_inj z)
      simp only [decide_eq_false c, decide_eq_false c2]
      exact ih
theorem valB_none {k : IK} : ∀ {m : Bs}, k ∉ m.map (·.1) → valB m k = none
  | [], _ => rfl
  | e :: r, h => by
    have h1 : ¬ e.1 = k := fun z => h (by rw [List.map_cons, z]; exact List.mem_cons_self)
    have ih := valB_none (k := k) (m := r) fun z => h (List.mem_cons_of_mem _ z)
    unfold valB at *
    rw [List.find?_cons, decide_eq_false h1]
    exact ih
theorem put_enc {m : Bs} {k : IK} {b : Int} (h : k ∉ m.map (·.1)) : putK (encB m) (kT k) (V.int b) = encB (m ++ [(k, b)]) := by
  rw [putK_new _ (by rw [val_enc, valB_none h]; rfl), encB_snoc]
theorem valB_mem {k : IK} {x : Int} : ∀ {m : Bs}, (m.map (·.1)).Nodup → (valB m k = some x ↔ (k, x) ∈ m)
  | [], _ => by constructor <;> intro h <;> cases h
  | e :: r, nd => by
    rw [List.map_cons, List.nodup_cons] at nd
    have ih := valB_mem (k := k) (x := x) nd.2
    unfold valB at *
    rw [List.find?_cons]
    by_cases c : e.1 = k
    · rw [decide_eq_true c]
      constructor
      · intro h
        have h : e.2 = x := Option.some.inj h
        rw [← c, ← h]
        exact List.mem_cons_self
      · intro h
        rcases List.mem_cons.mp h with z | z
        · rw [← z]; rfl
        · exact absurd (List.mem_map.mpr ⟨(k, x), z, rfl⟩) (c ▸ nd.1)
    · rw [decide_eq_false c]
      constructor
      · intro h
        exact List.mem_cons_of_mem _ (ih.mp h)
      · intro h
        rcases List.mem_cons.mp h with z | z
        · exact absurd (congrArg Prod.fst z).symm c
        · exact ih.mpr z
/-! ### one cell -/
def stepG (f : IK → Option Int) (ks : List IK) : Bs := ks.filterMap fun k => (f k).map fun b => (k, b)
theorem stepG_snoc (f : IK → Option Int) (ks : List IK) (k : IK) : stepG f (ks ++ [k]) = stepG f ks ++ (match f k with | none => [] | some b => [(k, b)]) := by
  unfold stepG
  rw [List.filterMap_append]
  cases h : f k <;> simp [h]
theorem stepG_none {f : IK → Option Int} {k : IK} {r : List IK} (h : f k = none) : stepG f (k :: r) = stepG f r := by
  unfold stepG
  rw [List.filterMap_cons, h]; rfl
theorem stepG_some {f : IK → Option Int} {k : IK} {r : List IK} {b : Int} (h : f k = some b) : stepG f (k :: r) = (k, b) :: stepG f r := by
  unfold stepG
  rw [List.filterMap_cons, h]; rfl
theorem stepG_keys (f : IK → Option Int) : ∀ ks : List IK, ((stepG f ks).map (·.1)).Sublist ks
  | [] => List.Sublist.refl _
  | k :: r => by
    have ih := stepG_keys f r
    unfold stepG at *
    rw [List.filterMap_cons]
    cases f k with
    | none => exact ih.cons k
    | some b => exact ih.cons_cons k
theorem stepG_congr {f g : IK → Option Int} {ks : List IK} (h : ∀ k ∈ ks, f k = g k) : stepG f ks = stepG g ks := by
  induction ks with
  | nil => rfl
  | cons k r ih =>
    have ih := ih fun k hk => h k (List.mem_cons_of_mem _ hk)
    unfold stepG at *
    rw [List.filterMap_cons, List.filterMap_cons, h k List.mem_cons_self, ih]
def endB (W : Nat) (m : Bs) : List Int := (m.filter fun e => decide (e.1.2 = (W : Int) - 1)).map (·.2)
def before1 (m : Bs) (k : IK) : List Int := match valB m (k.1, k.2 - 1) with
  | some b => [b]
  | none => []
/-- the program's numbers -/
def some1 (W : Nat) (m : Bs) (k : IK) : List Int := before1 m k ++ (if k.2 = 0 then m.map (·.2) else endB W m).map (· + 1)
/-- the law's numbers -/
def one2 (W : Nat) (k : IK) (e : IK × Int) : List Int := (if e.1 = (k.1, k.2 - 1) then [e.2] else []) ++ (if e.1.2 + 1 = (W : Int) ∨ k.2 = 0 then [e.2 + 1] else [])
def some2 (W : Nat) (il : Bool) (at_ : Nat) (m : Bs) (k : IK) : List Int := (if at_ = 0 ∧ (k.2 = 0 ∨ il = false) then [1] else []) ++ m.flatMap (one2 W k)
theorem some_eq {W : Nat} {m : Bs} (nd : (m.map (·.1)).Nodup) (il : Bool) {a : Nat} (ha : 0 < a) (k : IK) : minO (some1 W m k) = minO (some2 W il a m k) := by
  refine minO_congr fun x => ?_
  unfold some1 some2
  have h0 : ¬ (a = 0 ∧ (k.2 = 0 ∨ il = false)) := fun z => by omega
  rw [if_neg h0, List.nil_append, List.mem_append, List.mem_flatMap]
  have hb : x ∈ before1 m k ↔ ((k.1, k.2 - 1), x) ∈ m := by
    rw [← valB_mem nd]
    unfold before1
    cases valB m (k.1, k.2 - 1) with
    | none => simp
    | some b => simp [eq_comm]
  rw [hb]
  constructor
  · rintro (h | h)
    · exact ⟨_, h, by unfold one2; rw [if_pos rfl]; simp⟩
    · obtain ⟨b, hq, rfl⟩ := List.mem_map.mp h
      by_cases c : k.2 = 0
      · rw [if_pos c] at hq
        obtain ⟨e, he, rfl⟩ := List.mem_map.mp hq
        exact ⟨e, he, by unfold one2; rw [if_pos (c := e.1.2 + 1 = (W : Int) ∨ k.2 = 0) (.inr c)]; simp⟩
      · rw [if_neg c] at hq
        obtain ⟨e, he, rfl⟩ := List.mem_map.mp hq
        obtain ⟨he1, he2⟩ := List.mem_filter.mp he
        have he2 := of_decide_eq_true he2
        exact ⟨e, he1, by unfold one2; rw [if_pos (c := e.1.2 + 1 = (W : Int) ∨ k.2 = 0) (.inl (by omega))]; simp⟩
  · rintro ⟨e, he, h⟩
    unfold one2 at h
    rcases List.mem_append.mp h with h | h
    · by_cases c : e.1 = (k.1, k.2 - 1)
      · rw [if_pos c] at h
        rw [List.mem_singleton] at h
        left
        rw [h, ← c]
        exact he
      · rw [if_neg c] at h; cases h
    · by_cases c : e.1.2 + 1 = (W : Int) ∨ k.2 = 0
      · rw [if_pos c] at h
        rw [List.mem_singleton] at h
        right
        refine List.mem_map.mpr ⟨e.2, ?_, h.symm⟩
        by_cases c0 : k.2 = 0
        · rw [if_pos c0]
          exact List.mem_map.mpr ⟨e, he, rfl⟩
        · rw [if_neg c0]
          exact List.mem_map.mpr ⟨e, List.mem_filter.mpr ⟨he, decide_eq_true (by rcases c with c | c; · omega
                                                                                 · exact absurd c c0)⟩, rfl⟩
      · rw [if_neg c] at h; cases h
/-- the tables of a text: cell by cell -/
def sgn (z : Str) (i : Nat) : Nat := z.cps.getD i 0
def prev (il : Bool) (W : Nat) (ws : List Str) (z : Str) : Nat → Bs
  | 0 => stepG (fun k => minO (some2 W il 0 [] k)) (agr ws (sgn z 0))
  | i + 1 => stepG (fun k => minO (some2 W il (i + 1) (prev il W ws z i) k)) (agr ws (sgn z (i + 1)))
theorem first_eq (il : Bool) (W : Nat) (ks : List IK) : (fstK il ks).map (fun k => (k, (1 : Int))) = stepG (fun k => minO (some2 W il 0 [] k)) ks := by
  induction ks with
  | nil => rfl
  | cons k r ih =>
    unfold fstK at *
    rw [List.filter_cons]
    by_cases c : k.2 = 0 ∨ il = false
    · have e : (decide (k.2 = 0) || !il) = true := by rcases c with c | c <;> simp [c]
      have e2 : minO (some2 W il 0 [] k) = some 1 := by unfold some2; rw [if_pos ⟨rfl, c⟩]; rfl
      rw [if_pos e, List.map_cons, ih, stepG_some e2]
    · have e : ¬ (decide (k.2 = 0) || !il) = true := by
        intro z
        rcases Bool.or_eq_true_iff.mp z with z | z
        · exact c (.inl (of_decide_eq_true z))
        · exact c (.inr (by simpa using z))
      have e2 : minO (some2 W il 0 [] k) = none := by unfold some2; rw [if_neg (fun z => c z.2)]; rfl
      rw [if_neg e, ih, stepG_none e2]
end K42

set_option Elab.async false
set_option linter.all false
set_option maxRecDepth 100000
set_option maxHeartbeats 4000000
namespace K42
open PySem PySem.Spec PyProof.Rows L2 He Ov
theorem walk_itemsT {d : Addr} {o : Obj} {kvs : List (List Key × V)} : Walk (ItiT d o kvs) kvs.length (fun H => H d = some (.frz o (.dT kvs)))
    (fun i H x H' => ∃ (T : Addr) (k : List Key) (v : V) (q : Addr), kvs[i]? = some (k, v) ∧ H q = some (.tup (k.map kV)) ∧ x = .ref T ∧ H T = none ∧ H' = upd H T (.tup [.ref q, v])) :=
  ⟨fun _ _ hi q => ⟨q, hi⟩, fun _ q => ⟨q, Nat.le_refl _⟩, fun _ _ _ _ _ _ y => y⟩
def spLater (K : PySem.W.Frag) : Sp := fun vs H Q _ => ∃ (g d : Addr) (ws : List Str) (W : Nat) (il : Bool) (z : Str) (j c : Nat) (m : Bs), vs = [.ref g, .int j, .ref d] ∧ GridAt K H g ws W il z ∧ WordsOk ws W ∧ z.length ≤ 1000 ∧ z.cps[j]? = some c ∧
  H d = some (.dT (encB m)) ∧ m.length ≤ 36 ∧ ∀ H' p, Same H H' → H p = none → H' p = some (.dT (encB (stepG (fun k => minO (some1 W m k)) (agr ws c)))) → Q (.ref p) H'
theorem dget_B {H : Hp} {d t : Addr} {m : Bs} {k : IK} (hd : H d = some (.dT (encB m))) (ht : H t = some (.tup [.int k.1, .int k.2])) : DGet H d (.ref t) ((valB m k).map V.int) := by
  rw [← val_enc]
  exact DGet.t (k := kT k) hd ht
abbrev tK (o : TE) : TE := tTup (tCons (tVar 4) (tCons o tNil))
abbrev tO1 : TE := tOp (rI0 fun i j => .int (i - j)) (tVar 5) (tC (.int 1))
/-- [bounds[(word, offset - 1)]] if (word, offset - 1) in bounds else [] -/
theorem e_some {σ : L2.St} {H : Hp} {d : Addr} {m : Bs} {k : IK} {Q : VK} (h4 : σ[4]? = some (some (.int k.1))) (h5 : σ[5]? = some (some (.int k.2))) (h2 : σ[2]? = some (some (.ref d))) (hd : H d = some (.dT (encB m)))
    (q : ∀ H' S, Same H H' → H S = none → H' S = some (.lst ((before1 m k).map V.int)) → Q (.ref S) H') : tIf (tB (tDIn (tK tO1) (tVar 2))) (tLst (tCons (tDGet (tVar 2) (tK tO1)) tNil)) (tLst tNil) σ H Q := by
  refine ⟨_, h4, _, h5, _, _, rfl, rfl, by show 2 ≤ sizeLine; decide, fun t nt => ⟨_, h2, d, _, rfl, dget_B (k := (k.1, k.2 - 1)) ((same_upd nt) _ _ hd) upd_same, _, rfl, ?_⟩⟩
  have s1 := same_upd (o := .tup [V.int k.1, V.int (k.2 - 1)]) nt
  cases e : valB m (k.1, k.2 - 1) with
  | none =>
    refine iteF ⟨by show 0 ≤ sizeLine; decide, fun S nS => q _ S (s1.trans (same_upd nS)) (s1.free nS) ?_⟩
    rw [upd_same]
    unfold before1
    rw [e]; rfl
  | some b =>
    refine iteT ⟨_, h2, _, h4, _, h5, _, _, rfl, rfl, by show 2 ≤ sizeLine; decide, fun t2 nt2 => ⟨d, V.int b, rfl, ?_, by show 1 ≤ sizeLine; decide, fun S nS => q _ S ((s1.trans (same_upd nt2)).trans (same_upd nS)) ((s1.trans (same_upd nt2)).free nS) ?_⟩⟩
    · have g := dget_B (k := (k.1, k.2 - 1)) ((s1.trans (same_upd (o := .tup [V.int k.1, V.int (k.2 - 1)]) nt2)) _ _ hd) upd_same
      rw [e] at g
      exact g
    · rw [upd_same]
      unfold before1
      rw [e]; rfl
theorem enc_vals (m : Bs) : (encB m).map (·.2) = (m.map (·.2)).map V.int := by
  unfold encB encT
  simp [List.map_map]
/-- list(bounds.values()) if offset == 0 else ended -/
theorem e_iter {K : PySem.W.Frag} {σ : L2.St} {H : Hp} {d E : Addr} {m : Bs} {k : IK} {es : List Int} {R : It → Hp → Prop} (h5 : σ[5]? = some (some (.int k.2))) (h2 : σ[2]? = some (some (.ref d))) (h6 : σ[6]? = some (some (.ref E))) (hd : H d = some (.dT (encB m))) (hE : H E = some (.lst (es.map V.int)))
    (q : ∀ H' L, Same H H' → H' L = some (.lst ((if k.2 = 0 then m.map (·.2) else es).map V.int)) → R (Itl K L) H') : iList K (tIf (tTest (tOp rEq (tVar 5) (tC (.int 0)))) (tListValsT (tVar 2)) (tVar 6)) σ H R := by
  refine ⟨_, h5, rfl, _, rfl, ?_⟩
  by_cases c : k.2 = 0
  · rw [decide_eq_true (congrArg V.int c : V.int k.2 = V.int 0)]
    refine iteT ⟨_, h2, d, _, rfl, .inl hd, fun L nL => ⟨L, rfl, ⟨_, SqL.of upd_same⟩, q _ L (same_upd nL) ?_⟩⟩
    rw [upd_same, enc_vals, if_pos c]
  · rw [decide_eq_false (fun e : V.int k.2 = V.int 0 => c (by injection e))]
    refine iteF ⟨_, h6, E, rfl, ⟨_, SqL.of hE⟩, q _ E (.refl _) ?_⟩
    rw [hE, if_neg c]
theorem agrW_pair (i : Nat) (z : Str) (c n : Nat) : (agrW i z c n).Pairwise fun a b => a.1 = b.1 ∧ a.2 < b.2 := by
  unfold agrW cellsW
  rw [List.pairwise_map]
  refine (List.Pairwise.sublist List.filter_sublist List.pairwise_lt_range).imp fun h => ⟨rfl, by omega⟩
theorem agrW_fst {i : Nat} {z : Str} {c n : Nat} {k : IK} (h : k ∈ agrW i z c n) : k.1 = i ∧ 0 ≤ k.2 ∧ k.2 < n := by
  unfold agrW cellsW at h
  obtain ⟨j, hj, rfl⟩ := List.mem_map.mp h
  have := List.mem_range.mp (List.mem_filter.mp hj).1
  exact ⟨rfl, by show (0 : Int) ≤ (j : Int); omega, by show (j : Int) < (n : Int); omega⟩
def lexLt (a b : IK) : Prop := a.1 < b.1 ∨ a.1 = b.1 ∧ a.2 < b.2
theorem agrN_mem {ws : List Str} {c n : Nat} {k : IK} (h : k ∈ agrN ws c n) : 0 ≤ k.1 ∧ k.1 < n ∧ 0 ≤ k.2 ∧ k.2 < (lw ws k.1.toNat).cps.size := by
  unfold agrN at h
  obtain ⟨i, hi, hk⟩ := List.mem_flatMap.mp h
  obtain ⟨h1, h2, h3⟩ := agrW_fst hk
  have := List.mem_range.mp hi
  rw [h1]
  exact ⟨by omega, by omega, h2, by simpa using h3⟩
theorem agrN_pair (ws : List Str) (c : Nat) : ∀ n, (agrN ws c n).Pairwise lexLt
  | 0 => by unfold agrN; exact List.Pairwise.nil
  | n + 1 => by
    rw [agrN_succ, List.pairwise_append]
    refine ⟨agrN_pair ws c n, (agrW_pair n _ c _).imp fun h => .inr h, fun a ha b hb => .inl ?_⟩
    have := (agrN_mem ha).2.1
    have := (agrW_fst hb).1
    omega
theorem agr_pair (ws : List Str) (c : Nat) : (agr ws c).Pairwise lexLt := agrN_pair ws c _
theorem agr_nodup (ws : List Str) (c : Nat) : (agr ws c).Nodup := (agr_pair ws c).imp fun h e => by
  subst e
  rcases h with h | h
  · omega
  · omega
theorem nodup_take {α : Type} {l : List α} (nd : l.Nodup) {n : Nat} {x : α} (h : l[n]? = some x) : x ∉ l.take n := fun z => by
  obtain ⟨i, hi, e⟩ := List.mem_take_iff_getElem.mp z
  obtain ⟨h1, h2⟩ := List.getElem?_eq_some_iff.mp h
  have := (List.getElem_inj nd).mp (e.trans h2.symm)
  omega
theorem dp_ints {K : PySem.W.Frag} {H : Hp} : ∀ ns : List Int, DpAll K H (ns.map V.int) (ns.map PyData.int)
  | [] => .nil
  | n :: r => .cons (.int n) (dp_ints r)
theorem lay_ints : ∀ ns : List Int, PyData.canLayAll0 (ns.map PyData.int) = true
  | [] => rfl
  | n :: r => by
    show (PyData.canLay0 (.int n) && PyData.canLayAll0 (r.map PyData.int)) = true
    rw [lay_ints r]; rfl
theorem dep_ints : ∀ ns : List Int, PyData.depthAll (ns.map PyData.int) = 0
  | [] => rfl
  | n :: r => by
    show max (PyData.depth (.int n)) (PyData.depthAll (r.map PyData.int)) = 0
    rw [dep_ints r]; rfl
theorem shaped_ints (ns : List Int) : SeqAt.shaped (.list (ns.map PyData.int)) = true := by
  unfold SeqAt.shaped
  have h1 : PyData.canLay0 (.list (ns.map PyData.int)) = true := lay_ints ns
  have h2 : PyData.depth (.list (ns.map PyData.int)) ≤ 64 := by
    show PyData.depthAll (ns.map PyData.int) + 1 ≤ 64
    rw [dep_ints]
    decide
  rw [h1, decide_eq_true h2]; rfl
theorem ints_nil : PyData.eqv (.list (([] : List Int).map PyData.int)) (.list []) = true := rfl
theorem ints_cons (b : Int) (r : List Int) : PyData.eqv (.list ((b :: r).map PyData.int)) (.list []) = false := rfl
section
variable {P : Program} {w : World} {K : PySem.W.Frag} {mg : Str → Option Value} {base : Heap}
abbrev N_lb : List Str := ["grid", "cell", "bounds", "found", "word", "offset", "ended", "some", "bound"]
theorem sc_lb : FnScope N_lb ["grid", "cell", "bounds"] (defScope s_later_bounds) := ⟨rfl, rfl, rfl, by decide +kernel, rfl, by decide +kernel, by decide +kernel⟩
theorem b_lb : BindsX "later_bounds" "later_bounds" s_later_bounds ["grid", "cell", "bounds"] := fun _ _ _ _ _ _ us hl => match us, hl with | [_, _, _], _ => rfl
theorem ok_lb (T : Txt K mg) : CallC P w K mg base CX0 2 "later_bounds" ["grid", "cell", "bounds"] (spLater K) := by
  refine ⟨kept_of T.f_later_bounds sc_lb b_lb (fun vs H Q E h => ?_) (fun cdv A outer s H vs Q E hr h => ?_), T.g_later_bounds, keep T.f_later_bounds⟩
  · obtain ⟨g, d, ws, W, il, z, j, c, m, rfl, _⟩ := h
    rfl
  · obtain ⟨g, d, ws, W, il, z, j, c, m, rfl, hg, ok, lz, hc, hd, lm, q⟩ := h
    have hu := hu_of hr
    refine ⟨_, pss_cons (ps_set (i := 3) sc_lb.nd rfl (.inl rfl) pe_dnewT)
      (pss_cons (ps_lock (ps_setLc (i := 6) (own := [("word", 4), ("offset", 5), ("bound", 8)]) (g := gTup K 2 (gCons (gTup K 2 (gCons (gName 4) (gCons (gName 5) gNil))) (gCons (gName 8) gNil))) (tt := tTest (tOp rEq (tVar 5) (tFld K (tVar 0) "last_offset"))) rfl sc_lb.nd rfl rfl (sw_true rfl rfl rfl (by decide +kernel))
        (pi_itemsT (pv 2)) (blkOk_by (N := N_lb) (sc := defScope s_later_bounds) (by decide +kernel))
        (fun _ _ _ _ _ => pg_tup rfl (pgs_cons (pg_tup rfl (pgs_cons (pg_name (i := 4) sc_lb.nd rfl (.inl rfl)) (pgs_cons (pg_name (i := 5) sc_lb.nd rfl (.inl rfl)) pgs_nil))) (pgs_cons (pg_name (i := 8) sc_lb.nd rfl (.inl rfl)) pgs_nil)))
        (fun _ _ _ _ _ => pts_one (pt_cmpR op_eq (pv 5) (pe_fld (pv 0) rfl) (nomark _))) (fun _ _ _ _ _ => pv 8)))
      (pss_cons (ps_for PassesOwn.never rfl (pi_list (pe_methC (pv 0) T.cl_Grid (ok_agr T) hr pass0 (pa_cons (pv 1) pa_nil))) (pg_tup rfl (pgs_cons (pg_name (i := 4) sc_lb.nd rfl (.inl rfl)) (pgs_cons (pg_name (i := 5) sc_lb.nd rfl (.inl rfl)) pgs_nil)))
        (pss_cons (ps_set (i := 7) sc_lb.nd rfl (.inl rfl) (pe_ifExp (pt_cmp (pc_din hu (pe_tup (pa_cons (pv 4) (pa_cons (pe_op op_sub (pv 5) pe_int) pa_nil))) (pv 2))) (pe_lst (pa_cons (pe_dget hu (pv 2) (pe_tup (pa_cons (pv 4) (pa_cons (pe_op op_sub (pv 5) pe_int) pa_nil))) (fun _ _ => rfl)) pa_nil)) (pe_lst pa_nil)))
        (pss_cons (ps_expr (pe_bm PySem.F.plainAttrs_list PySem.F.slot_list_extend PySem.F.type_list_extend mt_extend (pv 7) (pa_cons (pe_lc (own := [("bound", 8)]) rfl sc_lb.nd (pi_list (pe_ifExp (pt_cmpR op_eq (pv 5) pe_int (nomark _)) (pe_listValsT rfl (pv 2) (by rfl) T.z_list) (pv 6)))
          (blkOk_by (N := N_lb) (sc := defScope s_later_bounds) (by decide +kernel)) (fun _ _ _ _ _ => pg_name (i := 8) sc_lb.nd rfl (.inl rfl)) (fun _ _ _ _ _ => pts_nil) (fun _ _ _ _ _ => pe_op op_add (pv 8) pe_int)) pa_nil)))
        (pss_one (ps_if (pt_cmpR (op_neD hr.units) (pv 7) (pe_lst pa_nil) (nomark _)) (pss_one (ps_dput hu (pv 3) (pe_tup (pa_cons (pv 4) (pa_cons (pv 5) pa_nil))) (pe_callB (cr_min rfl) (by rfl) T.z_min (by decide +kernel) (pa_cons (pv 7) pa_nil)) rfl)) pss_nil)))))
      (pss_one (ps_ret (pv 3))))), ?_⟩
    intro f nf
    have sF : Same H (upd H f (.dT [])) := same_upd nf
    have hd0 := sF _ _ hd
    have fd : f ≠ d := (ne_of_none hd nf).symm
    -- ended
    refine ⟨d, _, hd0, trivial, fun od => ⟨_, rfl, d, od, encB m, rfl, upd_same, fun E0 nE => ?_⟩⟩
    have lk : upd (upd H f (.dT [])) d (.frz od (.dT (encB m))) d = some (.frz od (.dT (encB m))) := upd_same
    obtain ⟨dxg, lg, hg1, hgl⟩ := id hg
    have gd : g ≠ d := ne_of hg1 hd (by intro z; cases z)
    have hgL : upd (upd H f (.dT [])) d (.frz od (.dT (encB m))) g = some (.ins (ga K "Grid") dxg (gridF lg il z W)) := by rw [upd_ne gd]; exact sF _ _ hg1
    generalize hL : upd (upd H f (.dT [])) d (.frz od (.dT (encB m))) = HL at lk hgL nE
    refine lc_it walk_itemsT (fun n H' => Same HL H' ∧ H' E0 = some (.lst ((endB W (m.take n)).map V.int))) ⟨same_upd nE, upd_same⟩ (fun _ _ _ h => h.1 _ _ lk) ?_ ?_
    · rintro n x H1 H2 hn ⟨s1, h1⟩ ⟨T0, kk, v, qa, hkv, hqa, rfl, nT, rfl⟩
      obtain ⟨e, he, rfl, rfl⟩ := encB_get hkv
      have s2 := same_upd (o := .tup [V.ref qa, V.int e.2]) nT
      refine ⟨T0, _, rfl, SqT.of upd_same, rfl, _, _, rfl, ⟨qa, _, rfl, SqT.of (s2 _ _ hqa), rfl, _, _, rfl, _, _, rfl, rfl, _, _, rfl, rfl, rfl, ?_⟩⟩
      have s3 : Same HL _ := s1.trans s2
      have tk : m.take (n + 1) = m.take n ++ [e] := by rw [List.take_add_one, he]; rfl
      refine ⟨_, rfl, _, rfl, g, _, dxg, _, _, rfl, s3 _ _ hgL, T.cl_Grid, T.n_Grid_last_offset, rfl, rfl, _, rfl, ?_⟩
      by_cases c : e.1.2 = (W : Int) - 1
      · have c2 : V.int e.1.2 = V.int ((W : Int) - 1) := congrArg V.int c
        show (if decide (V.int e.1.2 = V.int ((W : Int) - 1)) = true then _ else _)
        rw [decide_eq_true c2]
        refine iteT ⟨_, rfl, _, s2 _ _ h1, ?_, Same.put s3 nE, ?_⟩
        · rw [List.length_map]
          unfold endB
          rw [List.length_map]
          have g1 := List.length_filter_le (fun e : IK × Int => decide (e.1.2 = (W : Int) - 1)) (m.take n)
          rw [List.length_take] at g1
          exact small1000 (by omega)
        · rw [upd_same, tk]
          unfold endB
          rw [List.filter_append, List.filter_cons_of_pos (by simpa using c), List.map_append, List.map_append]; rfl
      · have c2 : ¬ V.int e.1.2 = V.int ((W : Int) - 1) := fun z => c (by injection z)
        show (if decide (V.int e.1.2 = V.int ((W : Int) - 1)) = true then _ else _)
        rw [decide_eq_false c2]
        refine iteF ⟨s3, ?_⟩
        rw [tk]
        unfold endB
        rw [List.filter_append, List.filter_cons_of_neg (by simpa using c)]
        rw [s2 _ _ h1]
        unfold endB
        simp
    · rintro H1 ⟨s1, h1⟩
      rw [encB_len, List.take_length] at h1
      refine ⟨s1 _ _ lk, ?_⟩
      have unl : ∀ b o, upd H f (.dT []) b = some o → upd H1 d (.dT (encB m)) b = some o := fun b o e => by
        by_cases c : b = d
        · subst c
          rw [hd0] at e
          rw [upd_same]
          exact e
        · rw [upd_ne c]
          refine s1 _ _ ?_
          rw [← hL, upd_ne c]
          exact e
      have sH : Same H (upd H1 d (.dT (encB m))) := fun b o e => unl b o (sF b o e)
      have hf2 := unl f _ upd_same
      have hE2 : upd H1 d (.dT (encB m)) E0 = some (.lst ((endB W m).map V.int)) := by
        rw [upd_ne]
        · exact h1
        · intro z
          rw [z, lk] at nE
          cases nE
      generalize upd H1 d (.dT (encB m)) = H2 at sH hf2 hE2
      -- the loop
      refine ⟨_, rfl, g, dxg, _, rfl, sH _ _ hg1, rfl, _, rfl, g, ws, W, il, z, j, c, rfl, hg.same sH, ok, lz, hc, fun H3 pa s3 npa ⟨qs, ha, hk⟩ => ⟨pa, rfl, ⟨_, SqL.of ha⟩, ?_⟩⟩
      have hf3 := s3 _ _ hf2
      have hE3 := s3 _ _ hE2
      have sH3 : Same H H3 := sH.trans s3
      have la := agrN_len (c := c) ok.len ws.length (Nat.le_refl _)
      have la2 : (agr ws c).length ≤ 36 := Nat.le_trans la ok.all
      have fpa : f ≠ pa := ne_of hf3 ha (by intro z; cases z)
      have ndk := agr_nodup ws c
      refine for_list (K := K) (a := pa) (xs := qs.map V.ref) (fun n σ H' => (∃ wv ov sv, σ = [some (.ref g), some (.int j), some (.ref d), some (.ref f), wv, ov, some (.ref E0), sv, none]) ∧ SameBut f H3 H' ∧ H' f = some (.dT (encB (stepG (fun k => minO (some1 W m k)) ((agr ws c).take n))))) ⟨⟨_, _, _, rfl⟩, .refl _ _, hf3⟩ (fun n σ H' _ h => SqL.of (h.2.1 _ _ fpa.symm ha)) ?_ ?_
      · rintro n x σ H4 hx ⟨⟨wv, ov, sv, rfl⟩, s4, h4⟩
        rw [List.getElem?_map] at hx
        obtain ⟨qa, hqa, rfl⟩ := Option.map_eq_some_iff.mp hx
        obtain ⟨k, hk3, hqt⟩ := keys_get hk hqa
        have ht : H4 qa = some (.tup [.int k.1, .int k.2]) := s4 _ _ (ne_of hqt hf3 (by intro z; cases z)) hqt
        have hd4 : H4 d = some (.dT (encB m)) := s4 _ _ fd.symm (sH3 _ _ hd)
        have hE4 : H4 E0 = some (.lst ((endB W m).map V.int)) := s4 _ _ (ne_of hE3 hf3 (by intro z; cases z)) hE3
        have tk : (agr ws c).take (n + 1) = (agr ws c).take n ++ [k] := by rw [List.take_add_one, hk3]; rfl
        refine ⟨qa, _, rfl, SqT.of ht, rfl, _, _, rfl, _, _, rfl, rfl, ?_⟩
        refine e_some (d := d) (m := m) (k := k) rfl rfl rfl hd4 fun H5 S s5 nS hS => ?_
        refine ⟨_, rfl, .inl ⟨rfl, _, SqL.of hS⟩, ?_⟩
        unfold tCons tLc
        refine e_iter (d := d) (E := E0) (m := m) (k := k) (es := endB W m) rfl rfl rfl (s5 _ _ hd4) (s5 _ _ hE4) fun H6 L s6 hL6 => ?_
        generalize hL6e : (if k.2 = 0 then m.map (·.2) else endB W m) = ls at hL6
        have lls : ls.length ≤ 36 := by
          rw [← hL6e]
          split
          · rw [List.length_map]; exact lm
          · unfold endB
            rw [List.length_map]
            exact Nat.le_trans (List.length_filter_le _ _) lm
        intro D nD
        refine lc_list (K := K) (a := L) (xs := ls.map V.int) (fun r H' => Same H6 H' ∧ H' D = some (.lst (((ls.take r).map (· + 1)).map V.int))) ⟨same_upd nD, upd_same⟩ (fun _ _ _ h => SqL.of (h.1 _ _ hL6)) ?_ ?_
        · rintro r x H7 hx ⟨s7, h7⟩
          rw [List.getElem?_map] at hx
          obtain ⟨b, hb, rfl⟩ := Option.map_eq_some_iff.mp hx
          refine ⟨rfl, lcY ⟨_, rfl, _, _, rfl, rfl, _, h7, ?_, Same.put s7 nD, ?_⟩⟩
          · rw [List.length_map, List.length_map, List.length_take]
            exact small1000 (by omega)
          · rw [upd_same, List.take_add_one, hb, List.map_append, List.map_append]; rfl
        · rintro H7 ⟨s7, h7⟩
          rw [List.length_map, List.take_length] at h7
          have s57 : Same H5 H7 := s6.trans s7
          have hS7 := s57 _ _ hS
          have lb1 : (before1 m k).length ≤ 1 := by unfold before1; split <;> simp
          have eS : (before1 m k).map V.int ++ (ls.map (· + 1)).map V.int = (some1 W m k).map V.int := by
            unfold some1
            rw [hL6e, List.map_append]
          refine ⟨S, D, _, _, rfl, rfl, hS7, h7, by rw [List.length_map, List.length_map, List.length_map]; exact Nat.le_of_lt (small1000 (by omega)), ?_⟩
          rw [eS]
          have s48 : SameBut S H7 (upd H7 S (.lst ((some1 W m k).map V.int))) := .upd
          have hS8 := upd_same (H := H7) (a := S) (o := .lst ((some1 W m k).map V.int))
          have s4_8 : Same H4 (upd H7 S (.lst ((some1 W m k).map V.int))) := SameBut.same (s5.trans s57) nS s48
          generalize upd H7 S (.lst ((some1 W m k).map V.int)) = H8 at hS8 s4_8
          clear s48
          -- if some != []
          have hf8 := s4_8 _ _ h4
          refine ⟨_, rfl, by show 0 ≤ sizeLine; decide, fun e0 ne0 => ⟨_, _, .lst (SqL.of ((same_upd ne0) _ _ hS8)) (dp_ints _), .lst (SqL.of upd_same) .nil, shaped_ints _, by decide, _, rfl, ?_⟩⟩
          have s9 := same_upd (o := .lst []) ne0
          have st : SameBut f H3 (upd H8 e0 (.lst [])) := s4.trans (Ov.Same.but (s4_8.trans s9))
          have hf9 := s9 _ _ hf8
          have hS9 := s9 _ _ hS8
          generalize upd H8 e0 (.lst []) = H9 at st hf9 hS9
          have kn : k ∉ (stepG (fun k => minO (some1 W m k)) ((agr ws c).take n)).map (·.1) := fun z => by
            have z2 := (stepG_keys _ _).subset z
            exact nodup_take ndk hk3 z2
          cases hs : some1 W m k with
          | nil =>
            rw [ints_nil, Bool.not_true]
            refine iteF ⟨⟨_, _, _, rfl⟩, st, ?_⟩
            rw [tk, stepG_snoc, hs]
            simpa [minO] using hf9
          | cons b0 br =>
            rw [ints_cons, Bool.not_false]
            refine iteT ⟨_, rfl, S, some1 W m k, rfl, SqL.of hS9, by rw [hs]; simp, fun mm hm1 hm2 => ⟨_, rfl, _, rfl, _, rfl, by show 2 ≤ sizeLine; decide, fun t nt => ⟨f, _, rfl, DPut.t (k := kT k) ((same_upd nt) _ _ hf9) upd_same ?_, ⟨_, _, _, rfl⟩, ?_, ?_⟩⟩⟩
            · rw [encB_len]
              have g1 := (stepG_keys (fun k => minO (some1 W m k)) ((agr ws c).take n)).length_le
              rw [List.length_map, List.length_take] at g1
              exact small1000 (by omega)
            · exact (st.trans (Ov.Same.but (same_upd nt))).trans .upd
            · rw [upd_same, put_enc kn, tk, stepG_snoc]
              simp only [minO_of hm1 hm2]
      · rintro σ H4 ⟨⟨wv, ov, sv, rfl⟩, s4, h4⟩
        rw [List.length_map, keys_len hk, List.take_length] at h4
        exact ⟨_, rfl, q _ f (fun b o e => s4 b o (ne_of_none e nf) (sH3 b o e)) nf h4⟩
end
end K42

set_option Elab.async false
set_option linter.all false
set_option maxRecDepth 100000
set_option maxHeartbeats 4000000
namespace K42
open PySem PySem.Spec PyProof.Rows L2 He Ov
/-- a dict comprehension over a list: the invariant by turn and heap -/
theorem dc_listT {K : PySem.W.Frag} {a : Addr} {xs : List V} {g : TG} {tt : TT} {tk tv : TE} {vs : List Nat} {σ : L2.St} {H1 : Hp} {D : Addr} {Qd : Hp → Prop} (Pv : Nat → Hp → Prop) (h0 : Pv 0 (upd H1 D (.dT []))) (hl : ∀ i H, i ≤ xs.length → Pv i H → SqL K H a xs)
    (hs : ∀ i x H, xs[i]? = some x → Pv i H → g x (wipe σ vs) H fun σ2 H2 => wipe σ2 vs = wipe σ vs ∧ tt σ2 H2 fun b H3 =>
      if b = true then tk σ2 H3 fun y H4 => tv σ2 H4 fun z H5 => ∃ kvs k b, y = .ref b ∧ H5 b = some (.tup (k.map kV)) ∧ H5 D = some (.dT kvs) ∧ kvs.length < sizeLine ∧ Pv (i + 1) (upd H5 D (.dT (putK kvs k z))) else Pv (i + 1) H3) (hd : ∀ H, Pv xs.length H → Qd H) :
    ∃ W : Nat → Nat → Hp → Prop, (∃ m, W 0 m (upd H1 D (.dT []))) ∧ ∀ i m H, W i m H →
      ((Itl K a).stop i H ∧ Qd H) ∨ ((Itl K a).go i H ∧ ∃ Nx : Hp → Prop, (∀ H', Nx H' → ∃ m', m' < m ∧ W (i + 1) m' H') ∧ ∀ x H', (Itl K a).yld i H x H' → g x (wipe σ vs) H' fun σ2 H2 => wipe σ2 vs = wipe σ vs ∧ tt σ2 H2 fun b H3 =>
        if b = true then tk σ2 H3 fun y H4 => tv σ2 H4 fun z H5 => ∃ kvs k b, y = .ref b ∧ H5 b = some (.tup (k.map kV)) ∧ H5 D = some (.dT kvs) ∧ kvs.length < sizeLine ∧ Nx (upd H5 D (.dT (putK kvs k z))) else Nx H3) := by
  refine ⟨fun i m H => m = xs.length - i ∧ i ≤ xs.length ∧ Pv i H, ⟨_, rfl, Nat.zero_le _, h0⟩, fun i m H h => ?_⟩
  obtain ⟨em, hi, p⟩ := h
  have src := hl i H hi p
  rcases Nat.lt_or_ge i xs.length with lt | ge
  · refine .inr ⟨walk_list.goes i H lt src, Pv (i + 1), fun H' p' => ⟨_, by omega, rfl, lt, p'⟩, fun x H' y => ?_⟩
    obtain ⟨e1, e2⟩ := walk_list.yields i H x H' lt src y
    subst e1
    exact hs i x _ e2 p
  · have e : i = xs.length := by omega
    subst e
    exact .inl ⟨walk_list.stops H src, hd H p⟩
/-! ### the tables as data -/
def RowAt (H : Hp) (r : Addr) (m : Bs) : Prop := ∃ qs : List Addr, H r = some (.lst (qs.map V.ref)) ∧ Paired (fun (e : IK × Int) q => H q = some (.tup [.int e.1.1, .int e.1.2, .int e.2])) m qs
def TabAt (H : Hp) (p : Addr) (ms : List Bs) : Prop := ∃ rs : List Addr, H p = some (.lst (rs.map V.ref)) ∧ Paired (fun m r => RowAt H r m ∧ r ≠ p) ms rs
theorem paired_imp {α β : Type} {F G : α → β → Prop} (h : ∀ a b, F a b → G a b) : ∀ {xs : List α} {ys : List β}, Paired F xs ys → Paired G xs ys
  | _, _, .nil => .nil
  | _, _, .cons r t => .cons (h _ _ r) (paired_imp h t)
theorem paired_snoc {α β : Type} {F : α → β → Prop} {a : α} {b : β} (r : F a b) : ∀ {xs : List α} {ys : List β}, Paired F xs ys → Paired F (xs ++ [a]) (ys ++ [b])
  | _, _, .nil => .cons r .nil
  | _, _, .cons q t => .cons q (paired_snoc r t)
theorem paired_len {α β : Type} {F : α → β → Prop} : ∀ {xs : List α} {ys : List β}, Paired F xs ys → ys.length = xs.length
  | _, _, .nil => rfl
  | _, _, .cons q t => by simp [paired_len t]
theorem paired_get {α β : Type} {F : α → β → Prop} : ∀ {xs : List α} {ys : List β} {n : Nat} {b : β}, Paired F xs ys → ys[n]? = some b → ∃ a, xs[n]? = some a ∧ F a b
  | _, _, _, _, .nil, e => by simp at e
  | _, _, 0, _, .cons r t, e => ⟨_, rfl, by simp at e; exact e ▸ r⟩
  | _, _, n + 1, _, .cons r t, e => by
    obtain ⟨k, h1, h2⟩ := paired_get (n := n) t (by simpa using e)
    exact ⟨k, by simpa using h1, h2⟩
theorem RowAt.same {H H' : Hp} {r : Addr} {m : Bs} (h : RowAt H r m) (s : Same H H') : RowAt H' r m := let ⟨qs, h1, h2⟩ := h; ⟨qs, s _ _ h1, paired_imp (fun _ _ e => s _ _ e) h2⟩
theorem TabAt.same {H H' : Hp} {p : Addr} {ms : List Bs} (h : TabAt H p ms) (s : Same H H') : TabAt H' p ms := let ⟨rs, h1, h2⟩ := h; ⟨rs, s _ _ h1, paired_imp (fun _ _ e => ⟨e.1.same s, e.2⟩) h2⟩
theorem RowAt.but {H H' : Hp} {r a : Addr} {m : Bs} {xs : List V} (h : RowAt H r m) (s : SameBut a H H') (ha : H a = some (.lst xs)) (hr : r ≠ a) : RowAt H' r m :=
  let ⟨qs, h1, h2⟩ := h; ⟨qs, s _ _ hr h1, paired_imp (fun _ _ e => s _ _ (ne_of e ha (by intro z; cases z)) e) h2⟩
theorem TabAt.snoc {H : Hp} {p R : Addr} {ms : List Bs} {m : Bs} (h : TabAt H p ms) (hR : RowAt H R m) (ne : R ≠ p) {rs : List Addr} (hp : H p = some (.lst (rs.map V.ref))) : TabAt (upd H p (.lst (rs.map V.ref ++ [.ref R]))) p (ms ++ [m]) := by
  obtain ⟨rs', h1, h2⟩ := h
  have e : rs' = rs := by
    rw [hp] at h1
    injection h1 with h1
    injection h1 with h1
    exact (List.map_inj_right (fun a b z => by injection z)).mp h1.symm
  subst e
  exact ⟨rs' ++ [R], by rw [upd_same, List.map_append]; rfl, paired_snoc ⟨hR.but .upd hp ne, ne⟩ (paired_imp (fun _ _ e => ⟨e.1.but .upd hp e.2, e.2⟩) h2)⟩
def tabs (il : Bool) (W : Nat) (ws : List Str) (z : Str) (n : Nat) : List Bs := (List.range n).map (prev il W ws z)
theorem tabs_succ (il : Bool) (W : Nat) (ws : List Str) (z : Str) (n : Nat) : tabs il W ws z (n + 1) = tabs il W ws z n ++ [prev il W ws z n] := by
  unfold tabs
  rw [List.range_succ, List.map_append]; rfl
theorem prev_keys (il : Bool) (W : Nat) (ws : List Str) (z : Str) : ∀ i, ((prev il W ws z i).map (·.1)).Sublist (agr ws (sgn z i))
  | 0 => stepG_keys _ _
  | i + 1 => stepG_keys _ _
/-- a dict of bounds as the cells have it -/
structure BsOk (ws : List Str) (W : Nat) (m : Bs) : Prop where
  pw : (m.map (·.1)).Pairwise lexLt
  len : m.length ≤ 36
  sm : ∀ e ∈ m, small e.1
theorem BsOk.nd {ws : List Str} {W : Nat} {m : Bs} (h : BsOk ws W m) : (m.map (·.1)).Nodup := h.pw.imp fun h e => by
  subst e
  rcases h with h | h <;> omega
theorem bsOk_of {ws : List Str} {W c : Nat} {m : Bs} (ok : WordsOk ws W) (h : (m.map (·.1)).Sublist (agr ws c)) : BsOk ws W m := by
  refine ⟨List.Pairwise.sublist h (agr_pair ws c), ?_, fun e he => ?_⟩
  · have l := h.length_le
    rw [List.length_map] at l
    exact Nat.le_trans l (Nat.le_trans (agrN_len ok.len ws.length (Nat.le_refl _)) ok.all)
  · have hm := agrN_mem (h.subset (List.mem_map.mpr ⟨e, he, rfl⟩))
    have h6 := ok.few
    have h8 := ok.w8
    have hl : (lw ws e.1.1.toNat).cps.size = W := by
      have hi : e.1.1.toNat < ws.length := by omega
      have e1 : lw ws e.1.1.toNat = ws[e.1.1.toNat] := by unfold lw; rw [List.getD_eq_getElem?_getD, List.getElem?_eq_getElem hi]; rfl
      rw [e1]
      exact ok.len _ (List.getElem_mem _)
    rw [hl] at hm
    exact ⟨hm.1, by omega, hm.2.2.1, by omega⟩
theorem prev_ok {ws : List Str} {W : Nat} (ok : WordsOk ws W) (il : Bool) (z : Str) (i : Nat) : BsOk ws W (prev il W ws z i) := bsOk_of ok (prev_keys il W ws z i)
/-- the sorted keys are the keys as they stand -/
theorem sorted_eq {ws : List Str} {W : Nat} {m : Bs} (h : BsOk ws W m) {ks : List IK} (hp : ks.Perm (m.map (·.1))) (hw : ks.Pairwise lexLe) : ks = m.map (·.1) := by
  refine List.Perm.eq_of_pairwise (le := lexLe) (fun a b _ _ h1 h2 => ?_) hw (h.pw.imp fun h => ?_) hp
  · unfold lexLe at h1 h2
    refine Prod.ext ?_ ?_ <;> omega
  · unfold lexLt at h
    unfold lexLe
    omega
theorem prev_next {ws : List Str} {W : Nat} (ok : WordsOk ws W) (il : Bool) (z : Str) (i : Nat) : stepG (fun k => minO (some1 W (prev il W ws z i) k)) (agr ws (sgn z (i + 1))) = prev il W ws z (i + 1) :=
  stepG_congr fun k _ => some_eq (prev_ok ok il z i).nd il (Nat.succ_pos i) k
theorem sgn_at {z : Str} {i : Nat} (h : i < z.length) : z.cps[i]? = some (sgn z i) := by
  have h : i < z.cps.size := h
  unfold sgn
  rw [Array.getD_eq_getD_getElem?, Array.getElem?_eq_getElem h]; rfl
theorem encT_eq (m : Bs) : encB m = encT (m.map fun e => (e.1, V.int e.2)) := rfl
theorem val_at {ws : List Str} {W : Nat} {m : Bs} (h : BsOk ws W m) {n : Nat} {e : IK × Int} (he : m[n]? = some e) : valB m e.1 = some e.2 := (valB_mem h.nd).mpr (List.mem_of_getElem? he)
def spTab (K : PySem.W.Frag) : Sp := fun vs H Q _ => ∃ (b : Addr) (ws : List Str) (W : Nat) (il : Bool) (z : Str), vs = [.ref b, .str z] ∧ BandAt K H b ws il ∧ WordsOk ws W ∧ MarkOk z ∧ ∀ H' p, Same H H' → TabAt H' p (tabs il W ws z z.length) → Q (.ref p) H'
section
variable {P : Program} {w : World} {K : PySem.W.Frag} {mg : Str → Option Value} {base : Heap}
abbrev N_tb : List Str := ["band", "text", "grid", "bounds", "found", "cell", "state", "word", "offset"]
theorem sc_tb : FnScope N_tb ["band", "text"] (defScope s_table_of) := ⟨rfl, rfl, rfl, by decide +kernel, rfl, by decide +kernel, by decide +kernel⟩
theorem b_tb : BindsX "table_of" "table_of" s_table_of ["band", "text"] := fun _ _ _ _ _ _ us hl => match us, hl with | [_, _], _ => rfl
theorem ok_tb (T : Txt K mg) : CallC P w K mg base CX0 5 "table_of" ["band", "text"] (spTab K) := by
  refine ⟨kept_of T.f_table_of sc_tb b_tb (fun vs H Q E h => ?_) (fun cdv A outer s H vs Q E hr h => ?_), T.g_table_of, keep T.f_table_of⟩
  · obtain ⟨b, ws, W, il, z, rfl, _⟩ := h
    rfl
  · obtain ⟨b, ws, W, il, z, rfl, hb, ok, hz, q⟩ := h
    have hu := hu_of hr
    refine ⟨_, pss_cons (ps_expr (pe_callC (ok_need T) (hr.mono (by decide)) (by rfl) pass0 (pa_cons (pv 1) pa_nil)))
      (pss_cons (ps_set (i := 2) sc_tb.nd rfl (.inl rfl) (pe_makeC (ok_gi T) hr (by rfl) pass0 (pa_cons (pv 0) (pa_cons (pv 1) pa_nil))))
      (pss_cons (ps_set (i := 3) sc_tb.nd rfl (.inr rfl) (pe_dcT (own := [("state", 6)]) hr.units0 rfl sc_tb.nd (pi_list (pe_methC0 (pv 2) T.cl_Grid (ok_fo T) (hr.mono (by decide)) pass0)) (blkOk_by (N := N_tb) (sc := defScope s_table_of) (by decide +kernel))
        (fun _ _ _ _ _ => pg_name (i := 6) sc_tb.nd rfl (.inl rfl)) (fun _ _ _ _ _ => pts_nil) (fun _ _ _ _ _ => pv 6) (fun _ _ _ _ _ => pe_int)))
      (pss_cons (ps_set (i := 4) sc_tb.nd rfl (.inl rfl) (pe_lst pa_nil))
      (pss_cons (ps_for PassesOwn.never rfl (pi_range1 (by rfl) T.z_range (pa_cons (pe_callB call_len_str (by rfl) T.z_len PySem.boot_len (pa_cons (pv 1) pa_nil)) pa_nil)) (pg_name (i := 5) sc_tb.nd rfl (.inl rfl))
        (pss_cons (ps_if (pt_cmpR op_gt (pv 5) pe_int (nomark _)) (pss_one (ps_set (i := 3) sc_tb.nd rfl (.inr rfl) (pe_callC (ok_lb T) (hr.mono (by decide)) (by rfl) pass0 (pa_cons (pv 2) (pa_cons (pv 5) (pa_cons (pv 3) pa_nil)))))) pss_nil)
        (pss_one (ps_expr (pe_bm PySem.F.plainAttrs_list PySem.F.slot_list_append PySem.F.type_list_append mt_append (pv 4) (pa_cons (pe_lc (own := [("word", 7), ("offset", 8)]) (g := gTup K 2 (gCons (gName 7) (gCons (gName 8) gNil))) rfl sc_tb.nd
          (pi_list (pe_callB (cr_sortDT rfl) (by rfl) T.z_sorted (by decide +kernel) (pa_cons (pv 3) pa_nil))) (blkOk_by (N := N_tb) (sc := defScope s_table_of) (by decide +kernel))
          (fun _ _ _ _ _ => pg_tup rfl (pgs_cons (pg_name (i := 7) sc_tb.nd rfl (.inl rfl)) (pgs_cons (pg_name (i := 8) sc_tb.nd rfl (.inl rfl)) pgs_nil))) (fun _ _ _ _ _ => pts_nil)
          (fun _ _ _ _ _ => pe_tup (pa_cons (pv 7) (pa_cons (pv 8) (pa_cons (pe_dget hu (pv 3) (pe_tup (pa_cons (pv 7) (pa_cons (pv 8) pa_nil))) (fun _ _ => rfl)) pa_nil))))) pa_nil))))))
      (pss_one (ps_ret (pv 4))))))), ?_⟩
    obtain ⟨z1, z2, z3⟩ := id hz
    have z0 := sgn_at (z := z) (i := 0) z1
    refine ⟨_, rfl, z, rfl, hz, fun H1 s1 => ⟨_, rfl, _, rfl, fun x dx nx ndx nex => ?_⟩⟩
    have sx : Same H1 (upd (upd H1 dx (.own x)) x (.ins (ga K "Grid") dx [])) := Same.put (same_upd ndx) nx
    refine ⟨x, dx, b, ws, W, il, z, rfl, upd_same, (hb.same s1).same sx, ok, fun H2 s2 hg => ⟨rfl, ?_⟩⟩
    have s02 : Same H H2 := s1.trans (SameBut.same sx nx s2)
    obtain ⟨dxg, lg, hg1, hgl⟩ := id hg
    refine ⟨_, rfl, x, dxg, _, rfl, hg1, rfl, x, ws, W, il, z, _, rfl, hg, ok, by omega, z0, fun H3 pa s3 npa ⟨qs, ha, hk⟩ => ⟨pa, rfl, ⟨_, SqL.of ha⟩, fun D nD => ?_⟩⟩
    have s03 : Same H H3 := s02.trans s3
    have hg3 := hg.same s3
    have ok0 := prev_ok ok il z 0
    have e0 : (fstK il (agr ws (sgn z 0))).map (fun k => (k, (1 : Int))) = prev il W ws z 0 := first_eq il W _
    generalize hks : fstK il (agr ws (sgn z 0)) = ks at hk e0
    have lks : ks.length ≤ 36 := by
      have := ok0.len
      rw [← e0, List.length_map] at this
      exact this
    have ndks : ks.Nodup := by
      have := ok0.nd
      rw [← e0, List.map_map] at this
      have e : ((fun x : IK × Int => x.1) ∘ fun k : IK => (k, (1 : Int))) = id := rfl
      rw [e, List.map_id] at this
      exact this
    refine dc_listT (K := K) (a := pa) (xs := qs.map V.ref) (fun n H' => Same H3 H' ∧ H' D = some (.dT (encB ((ks.take n).map fun k => (k, (1 : Int)))))) ⟨same_upd nD, upd_same⟩ (fun _ _ _ h => SqL.of (h.1 _ _ ha)) ?_ ?_
    · rintro n x H4 hx ⟨s4, h4⟩
      rw [List.getElem?_map] at hx
      obtain ⟨qa, hqa, rfl⟩ := Option.map_eq_some_iff.mp hx
      obtain ⟨k, hk3, hqt⟩ := keys_get hk hqa
      have tk : ks.take (n + 1) = ks.take n ++ [k] := by rw [List.take_add_one, hk3]; rfl
      have kn : k ∉ ((ks.take n).map fun k => (k, (1 : Int))).map (·.1) := by
        have e : ((fun x : IK × Int => x.1) ∘ fun k : IK => (k, (1 : Int))) = id := rfl
        rw [List.map_map, e, List.map_id]
        exact nodup_take ndks hk3
      refine ⟨rfl, lcY ⟨_, rfl, _, kT k, qa, rfl, s4 _ _ hqt, h4, ?_, Same.put s4 nD, ?_⟩⟩
      · rw [encB_len, List.length_map, List.length_take]
        exact small1000 (by omega)
      · rw [upd_same, put_enc kn, tk, List.map_append]; rfl
    · rintro H4 ⟨s4, h4⟩
      rw [List.length_map, keys_len hk, List.take_length, e0] at h4
      have s04 : Same H H4 := s03.trans s4
      have hg4 := hg3.same s4
      refine ⟨by show 0 ≤ sizeLine; decide, fun F nF => ?_⟩
      have s45 := same_upd (o := .lst []) nF
      have h5 := s45 _ _ h4
      have hF : TabAt (upd H4 F (.lst [])) F (tabs il W ws z 0) := ⟨[], upd_same, .nil⟩
      generalize upd H4 F (.lst []) = H5 at h5 s45 hF
      refine ⟨_, rfl, _, rfl, len_le (by omega), _, rfl, by omega, by omega, ?_⟩
      refine for_range (lo := 0) (n := z.length) (fun i σ H' => (∃ d cv, σ = [some (.ref b), some (.str z), some (.ref x), some (.ref d), some (.ref F), cv, none, none, none] ∧ H' d = some (.dT (encB (prev il W ws z (i - 1))))) ∧ Same H4 H' ∧ TabAt H' F (tabs il W ws z i)) ⟨⟨D, _, rfl, h5⟩, s45, hF⟩ ?_ ?_
      · rintro i σ H6 hi ⟨⟨d, cv, rfl, hd⟩, s6, hT6⟩
        have ci := sgn_at hi
        rw [Int.zero_add]
        refine ⟨_, rfl, _, _, rfl, rfl, _, rfl, ?_⟩
        -- the row of one cell
        have row : ∀ (H7 : Hp) (d : Addr) (cv : Option V), H7 d = some (.dT (encB (prev il W ws z i))) → Same H4 H7 → TabAt H7 F (tabs il W ws z i) →
            tDrop (tBM K "list" rAppend (tVar 4) (tCons (tLc (iList K (tCB rSortDT (tCons (tVar 3) tNil))) (gTup K 2 (gCons (gName 7) (gCons (gName 8) gNil))) tYes (tTup (tCons (tVar 7) (tCons (tVar 8) (tCons (tDGet (tVar 3) (tTup (tCons (tVar 7) (tCons (tVar 8) tNil)))) tNil)))) [7, 8]) tNil))
              { nx := fun σ H' => (∃ d cv, σ = [some (.ref b), some (.str z), some (.ref x), some (.ref d), some (.ref F), cv, none, none, none] ∧ H' d = some (.dT (encB (prev il W ws z (i + 1 - 1))))) ∧ Same H4 H' ∧ TabAt H' F (tabs il W ws z (i + 1)), rt := Q }
              [some (.ref b), some (.str z), some (.ref x), some (.ref d), some (.ref F), cv, none, none, none] H7 := by
          intro H7 d cv hd7 s7 hT7
          obtain ⟨rs, hF7, hr7⟩ := id hT7
          have okp := prev_ok ok il z i
          generalize hm : prev il W ws z i = m at hd7 okp
          refine ⟨_, rfl, .inl ⟨rfl, _, SqL.of hF7⟩, _, rfl, d, m.map fun e : IK × Int => ((e.1 : IK), V.int e.2), rfl, .inl hd7, by rw [List.length_map]; have := okp.len; omega, fun e he => ?_, fun ks2 qs2 p2 hp hw hk2 np2 => ⟨p2, rfl, ⟨_, SqL.of upd_same⟩, fun R nR => ?_⟩⟩
          · obtain ⟨e0, he0, rfl⟩ := List.mem_map.mp he
            exact okp.sm e0 he0
          have ek : ks2 = m.map (·.1) := sorted_eq okp (by rw [List.map_map] at hp; exact hp) hw
          subst ek
          have sp := same_upd (o := .lst (qs2.map V.ref)) np2
          have hk3 : KeysAt (upd H7 p2 (.lst (qs2.map V.ref))) (m.map (·.1)) qs2 := keys_same hk2 fun q k e => sp _ _ e
          have hp2 := upd_same (H := H7) (a := p2) (o := .lst (qs2.map V.ref))
          have hd8 := sp _ _ hd7
          have hF8 := sp _ _ hF7
          have hT8 := hT7.same sp
          have s8 : Same H4 (upd H7 p2 (.lst (qs2.map V.ref))) := s7.trans sp
          clear sp
          generalize upd H7 p2 (.lst (qs2.map V.ref)) = H8 at hk3 hp2 hd8 hF8 hT8 s8 nR
          refine lc_list (K := K) (a := p2) (xs := qs2.map V.ref) (fun n H' => Same H8 H' ∧ RowAt H' R (m.take n)) ⟨same_upd nR, [], upd_same, .nil⟩ (fun _ _ _ h => SqL.of (h.1 _ _ hp2)) ?_ ?_
          · rintro n x9 H9 hx ⟨s9, qr, h9, hq9⟩
            rw [List.getElem?_map] at hx
            obtain ⟨qa, hqa, rfl⟩ := Option.map_eq_some_iff.mp hx
            obtain ⟨k, hk4, hqt⟩ := keys_get hk3 hqa
            rw [List.getElem?_map] at hk4
            obtain ⟨e, he, rfl⟩ := Option.map_eq_some_iff.mp hk4
            have tk : m.take (n + 1) = m.take n ++ [e] := by rw [List.take_add_one, he]; rfl
            refine ⟨qa, _, rfl, SqT.of (s9 _ _ hqt), rfl, _, _, rfl, _, _, rfl, rfl, rfl, lcY ?_⟩
            refine ⟨_, rfl, _, rfl, _, rfl, _, rfl, _, rfl, by show 2 ≤ sizeLine; decide, fun t nt => ⟨d, V.int e.2, rfl, ?_, by show 3 ≤ sizeLine; decide, fun r nr => ⟨_, (same_upd nr) _ _ ((same_upd nt) _ _ h9), ?_, ?_, qr ++ [r], ?_, ?_⟩⟩⟩
            · have g := dget_B (k := e.1) ((same_upd (o := .tup [V.int e.1.1, V.int e.1.2]) nt) _ _ (s9 _ _ hd8)) upd_same
              rw [val_at okp he] at g
              exact g
            · rw [List.length_map, paired_len hq9, List.length_take]
              have := okp.len
              exact small1000 (by omega)
            · exact Same.put ((s9.trans (same_upd nt)).trans (same_upd nr)) nR
            · rw [upd_same, List.map_append]; rfl
            · rw [tk]
              refine paired_imp (fun _ q e2 => ?_) (paired_snoc (F := fun (e' : IK × Int) q => upd (upd _ t _) r (.tup [V.int e.1.1, V.int e.1.2, V.int e.2]) q = some (.tup [.int e'.1.1, .int e'.1.2, .int e'.2])) upd_same (paired_imp (fun _ q e2 => (same_upd nr) _ _ ((same_upd nt) _ _ e2)) hq9))
              exact tup_upd ((same_upd nr) _ _ ((same_upd nt) _ _ h9)) _ _ e2
          · rintro H9 ⟨s9, hR9⟩
            rw [List.length_map, keys_len hk3, List.length_map, List.take_length] at hR9
            have hF9 := s9 _ _ hF8
            have hd9 := s9 _ _ hd8
            have RF : R ≠ F := (ne_of_none hF8 nR).symm
            have lT := paired_len hr7
            have lT2 : (tabs il W ws z i).length = i := by unfold tabs; rw [List.length_map, List.length_range]
            refine ⟨F, _, _, rfl, rfl, hF9, by rw [List.length_map, lT, lT2]; exact small1000 (by omega), ⟨d, cv, rfl, ?_⟩, ?_, ?_⟩
            · rw [upd_ne (ne_of hd9 hF9 (by intro z; cases z)), Nat.add_sub_cancel, hm]
              exact hd9
            · exact SameBut.same (s8.trans s9) nF .upd
            · rw [tabs_succ, hm]
              exact (hT8.same s9).snoc hR9 RF hF9
        cases i with
        | zero =>
          rw [decide_eq_false (by decide : ¬ (0 : Int) < ((0 : Nat) : Int))]
          exact iteF (row H6 d _ hd s6 hT6)
        | succ j =>
          rw [decide_eq_true (by omega : (0 : Int) < ((j + 1 : Nat) : Int))]
          refine iteT ⟨_, rfl, _, rfl, _, rfl, x, d, ws, W, il, z, j + 1, _, prev il W ws z j, rfl, hg4.same s6, ok, by omega, ci, hd, (prev_ok ok il z j).len, fun H7 d2 s7 nd2 h7 => ?_⟩
          rw [prev_next ok] at h7
          exact row H7 d2 _ h7 (s6.trans s7) (hT6.same s7)
      · rintro σ H6 ⟨⟨d, cv, rfl, hd⟩, s6, hT6⟩
        exact ⟨_, rfl, q _ F (s04.trans s6) hT6⟩
end
end K42

set_option Elab.async false
set_option linter.all false
set_option maxRecDepth 100000
set_option maxHeartbeats 4000000
namespace K42
open PySem PySem.Spec PyProof.Rows L2 He Ov
def DictsAt (H : Hp) (p : Addr) (ms : List Bs) : Prop := ∃ ds : List Addr, H p = some (.lst (ds.map V.ref)) ∧ Paired (fun m d => H d = some (.dT (encB m))) ms ds
theorem DictsAt.same {H H' : Hp} {p : Addr} {ms : List Bs} (h : DictsAt H p ms) (s : Same H H') : DictsAt H' p ms := let ⟨ds, h1, h2⟩ := h; ⟨ds, s _ _ h1, paired_imp (fun _ _ e => s _ _ e) h2⟩
def spLeast (K : PySem.W.Frag) : Sp := fun vs H Q _ => ∃ (a : Addr) (ws : List Str) (W : Nat) (il : Bool) (z : Str), vs = [.ref a, .str z, .bl il] ∧ H a = some (.lst (ws.map V.str)) ∧ WordsOk ws W ∧ MarkOk z ∧ ∀ H' p, Same H H' → DictsAt H' p (tabs il W ws z z.length) → Q (.ref p) H'
def base1 (il : Bool) (i : Nat) (k : IK) : List Int := if i = 0 ∧ (k.2 = 0 ∨ il = false) then [1] else []
theorem some2_eq (W : Nat) (il : Bool) (i : Nat) (m : Bs) (k : IK) : some2 W il i m k = base1 il i k ++ m.flatMap (one2 W k) := rfl
/-- [1] * int(at == 0 and (spot == 0 or not is_line)) -/
theorem e_base {σ : L2.St} {H : Hp} {il : Bool} {i : Nat} {k : IK} {Q : VK} (h4 : σ[4]? = some (some (.int i))) (h9 : σ[9]? = some (some (.int k.2))) (h2 : σ[2]? = some (some (.bl il)))
    (q : ∀ H' S, Same H H' → H S = none → H' S = some (.lst ((base1 il i k).map V.int)) → Q (.ref S) H') :
    tOp rRep (tLst (tCons (tC (.int 1)) tNil)) (tCB (fun xs H Q => (∃ i, xs = [.int i] ∧ Q (.int i) H) ∨ ∃ k, xs = [.bl k] ∧ Q (.int (if k then 1 else 0)) H) (tCons (tAndV (tOp rEq (tVar 4) (tC (.int 0))) (tOrV (tOp rEq (tVar 9) (tC (.int 0))) (tNotV (tVar 2)))) tNil)) σ H Q := by
  refine ⟨by show 1 ≤ sizeLine; decide, fun l nl => ⟨_, h4, rfl, _, rfl, ?_⟩⟩
  have sl := same_upd (o := .lst [V.int 1]) nl
  have hl := upd_same (H := H) (a := l) (o := .lst [V.int 1])
  have no : (base1 il i k = []) → ∃ l' k' xs, V.ref l = .ref l' ∧ V.int (if false then 1 else 0) = .int k' ∧ upd H l (.lst [V.int 1]) l' = some (.lst xs) ∧ -(2 ^ 63) ≤ k' ∧ k' < 2 ^ 63 ∧ xs.length * k'.toNat ≤ sizeLine ∧ ∀ p, upd H l (.lst [V.int 1]) p = none → Q (.ref p) (upd (upd H l (.lst [V.int 1])) p (.lst (List.replicate k'.toNat xs).flatten)) := fun e =>
    ⟨l, 0, _, rfl, rfl, hl, by decide, by decide, by show 0 ≤ sizeLine; decide, fun p np => q _ p (sl.trans (same_upd np)) (sl.free np) (by rw [upd_same, e]; rfl)⟩
  have yes : (base1 il i k = [1]) → ∃ l' k' xs, V.ref l = .ref l' ∧ V.int (if true then 1 else 0) = .int k' ∧ upd H l (.lst [V.int 1]) l' = some (.lst xs) ∧ -(2 ^ 63) ≤ k' ∧ k' < 2 ^ 63 ∧ xs.length * k'.toNat ≤ sizeLine ∧ ∀ p, upd H l (.lst [V.int 1]) p = none → Q (.ref p) (upd (upd H l (.lst [V.int 1])) p (.lst (List.replicate k'.toNat xs).flatten)) := fun e =>
    ⟨l, 1, _, rfl, rfl, hl, by decide, by decide, by show 1 ≤ sizeLine; decide, fun p np => q _ p (sl.trans (same_upd np)) (sl.free np) (by rw [upd_same, e]; rfl)⟩
  by_cases ci : i = 0
  · subst ci
    rw [decide_eq_true (show V.int ((0 : Nat) : Int) = V.int 0 from rfl)]
    refine iteT ⟨_, h9, rfl, _, rfl, ?_⟩
    by_cases c : k.2 = 0
    · rw [decide_eq_true (congrArg V.int c : V.int k.2 = V.int 0)]
      exact iteT (.inr ⟨true, rfl, yes (by unfold base1; rw [if_pos ⟨rfl, .inl c⟩])⟩)
    · rw [decide_eq_false (fun e : V.int k.2 = V.int 0 => c (by injection e))]
      refine iteF ⟨_, h2, il, rfl, .inr ⟨!il, rfl, ?_⟩⟩
      cases il with
      | true => exact no (by unfold base1; rw [if_neg (by simp [c])])
      | false => exact yes (by unfold base1; rw [if_pos ⟨rfl, .inr rfl⟩])
  · rw [decide_eq_false (fun e : V.int (i : Int) = V.int 0 => ci (by injection e; omega))]
    exact iteF (.inr ⟨false, rfl, no (by unfold base1; rw [if_neg (fun z => ci z.1)])⟩)
theorem pair_shaped (a b : Int) : SeqAt.shaped (.tuple [.int a, .int b]) = true := rfl
theorem pair_eqv (a b c d : Int) : PyData.eqv (.tuple [.int a, .int b]) (.tuple [.int c, .int d]) = decide ((a, b) = (c, d)) := by
  show ((a == c) && ((b == d) && true)) = decide ((a, b) = (c, d))
  by_cases h1 : a = c
  · by_cases h2 : b = d
    · subst h1 h2; simp
    · simp [h1, h2]
  · simp [h1]
/-- if before == (word, spot - 1): some.append(bound) -/
theorem e_one {K : PySem.W.Frag} {σ : L2.St} {H : Hp} {D : Ends} {S q : Addr} {cur : List Int} {k k' : IK} {b : Int} (h8 : σ[8]? = some (some (.int k.1))) (h9 : σ[9]? = some (some (.int k.2))) (h11 : σ[11]? = some (some (.ref q))) (h12 : σ[12]? = some (some (.int b))) (h10 : σ[10]? = some (some (.ref S)))
    (hq : H q = some (.tup [.int k'.1, .int k'.2])) (hS : H S = some (.lst (cur.map V.int))) (hl : cur.length ≤ 1000)
    (fin : ∀ H', SameBut S H H' → H' S = some (.lst ((cur ++ if k' = (k.1, k.2 - 1) then [b] else []).map V.int)) → D.nx σ H') :
    tIfS (tTest (tOp (rEqD K) (tVar 11) (tTup (tCons (tVar 8) (tCons (tOp (rI0 fun i j => .int (i - j)) (tVar 9) (tC (.int 1))) tNil))))) (tDrop (tBM K "list" rAppend (tVar 10) (tCons (tVar 12) tNil))) tNext D σ H := by
  refine ⟨_, h11, _, h8, _, h9, _, _, rfl, rfl, by show 2 ≤ sizeLine; decide, fun t nt => ⟨_, _, .tup (SqT.of ((same_upd nt) _ _ hq)) (dp_ints [k'.1, k'.2]), .tup (SqT.of upd_same) (dp_ints [k.1, k.2 - 1]), pair_shaped _ _, pair_shaped _ _, _, rfl, ?_⟩⟩
  have st := same_upd (o := .tup [V.int k.1, V.int (k.2 - 1)]) nt
  have hS2 := st _ _ hS
  show (if PyData.eqv (.tuple [.int k'.1, .int k'.2]) (.tuple [.int k.1, .int (k.2 - 1)]) = true then _ else _)
  rw [pair_eqv]
  by_cases c : k' = (k.1, k.2 - 1)
  · have c2 : (k'.1, k'.2) = (k.1, k.2 - 1) := c
    rw [decide_eq_true c2]
    refine iteT ⟨_, h10, .inl ⟨rfl, _, SqL.of hS2⟩, _, h12, S, _, _, rfl, rfl, hS2, by rw [List.length_map]; exact small1000 hl, ?_⟩
    refine fin _ ((Ov.Same.but st).trans .upd) ?_
    rw [upd_same, if_pos c, List.map_append]; rfl
  · have c2 : ¬ (k'.1, k'.2) = (k.1, k.2 - 1) := c
    rw [decide_eq_false c2]
    refine iteF (fin _ (Ov.Same.but st) ?_)
    rw [hS2, if_neg c, List.append_nil]
/-- if before[1] + 1 == len(words[0]) or spot == 0: some.append(bound + 1) -/
theorem e_two {K : PySem.W.Frag} {σ : L2.St} {H : Hp} {D : Ends} {S q a : Addr} {cur : List Int} {k k' : IK} {b : Int} {ws : List Str} {W : Nat} (h9 : σ[9]? = some (some (.int k.2))) (h11 : σ[11]? = some (some (.ref q))) (h12 : σ[12]? = some (some (.int b))) (h10 : σ[10]? = some (some (.ref S))) (h0 : σ[0]? = some (some (.ref a)))
    (ok : WordsOk ws W) (ha : H a = some (.lst (ws.map V.str))) (hq : H q = some (.tup [.int k'.1, .int k'.2])) (hS : H S = some (.lst (cur.map V.int))) (hl : cur.length ≤ 1000)
    (fin : ∀ H', SameBut S H H' → H' S = some (.lst ((cur ++ if k'.2 + 1 = (W : Int) ∨ k.2 = 0 then [b + 1] else []).map V.int)) → D.nx σ H') :
    tIfS (tOr (tTest (tOp rEq (tOp (rI0 fun i j => .int (i + j)) (tOp (rIxT K) (tVar 11) (tC (.int 1))) (tC (.int 1))) (tCB (fun xs H Q => ∃ z, xs = [V.str z] ∧ z.length ≤ sizeLine ∧ Q (V.int ↑z.length) H) (tCons (tOp (rIxL K) (tVar 0) (tC (.int 0))) tNil)))) (tTest (tOp rEq (tVar 9) (tC (.int 0)))))
      (tDrop (tBM K "list" rAppend (tVar 10) (tCons (tOp (rI0 fun i j => .int (i + j)) (tVar 12) (tC (.int 1))) tNil))) tNext D σ H := by
  have n1 := ok.ne
  have w8 := ok.w8
  obtain ⟨z0, hz0⟩ : ∃ z, ws[0]? = some z := ⟨_, List.getElem?_eq_getElem n1⟩
  have lz0 := ok.len z0 (List.mem_of_getElem? hz0)
  have yes : (k'.2 + 1 = (W : Int) ∨ k.2 = 0) → tDrop (tBM K "list" rAppend (tVar 10) (tCons (tOp (rI0 fun i j => .int (i + j)) (tVar 12) (tC (.int 1))) tNil)) D σ H := fun c => by
    refine ⟨_, h10, .inl ⟨rfl, _, SqL.of hS⟩, _, h12, _, _, rfl, rfl, S, _, _, rfl, rfl, hS, by rw [List.length_map]; exact small1000 hl, ?_⟩
    refine fin _ .upd ?_
    rw [upd_same, if_pos c, List.map_append]; rfl
  refine ⟨_, h11, q, _, _, _, rfl, rfl, SqT.of hq, rfl, _, _, rfl, rfl, _, h0, a, _, _, _, rfl, rfl, SqL.of ha, atI_nat (j := 0) (v := .str z0) (by rw [List.getElem?_map, hz0]; rfl), _, rfl, len_le (by omega), rfl, _, rfl, ?_⟩
  rw [lz0]
  by_cases c : k'.2 + 1 = (W : Int)
  · rw [decide_eq_true (congrArg V.int c : V.int (k'.2 + 1) = V.int W)]
    exact iteT (iteT (yes (.inl c)))
  · rw [decide_eq_false (fun e : V.int (k'.2 + 1) = V.int (W : Int) => c (by injection e))]
    refine iteF ⟨_, h9, rfl, _, rfl, ?_⟩
    by_cases c2 : k.2 = 0
    · rw [decide_eq_true (congrArg V.int c2 : V.int k.2 = V.int 0)]
      exact iteT (yes (.inr c2))
    · rw [decide_eq_false (fun e : V.int k.2 = V.int 0 => c2 (by injection e))]
      refine iteF (fin _ (.refl _ _) ?_)
      rw [hS, if_neg (by rintro (z | z); exact c z; exact c2 z), List.append_nil]
end K42

set_option Elab.async false
set_option linter.all false
set_option maxRecDepth 100000
set_option maxHeartbeats 4000000
namespace K42
open PySem PySem.Spec PyProof.Rows L2 He Ov
theorem paired_unsnoc {α β : Type} {F : α → β → Prop} {m : α} : ∀ {xs : List α} {ys : List β}, Paired F (xs ++ [m]) ys → ∃ ys' e, ys = ys' ++ [e] ∧ F m e
  | [], [y], .cons r .nil => ⟨[], y, rfl, r⟩
  | x :: xs, y :: ys, .cons r t => by
    obtain ⟨ys', e, h1, h2⟩ := paired_unsnoc (xs := xs) (ys := ys) t
    exact ⟨y :: ys', e, by rw [h1]; rfl, h2⟩
theorem paired_mem {α β : Type} {F G : α → β → Prop} : ∀ {xs : List α} {ys : List β}, (∀ a b, b ∈ ys → F a b → G a b) → Paired F xs ys → Paired G xs ys
  | _, _, _, .nil => .nil
  | _, _, h, .cons r t => .cons (h _ _ List.mem_cons_self r) (paired_mem (fun a b hb => h a b (List.mem_cons_of_mem _ hb)) t)
def mmOf (il : Bool) (W : Nat) (ws : List Str) (z : Str) : Nat → Bs
  | 0 => []
  | i + 1 => prev il W ws z i
theorem mm_step (il : Bool) (W : Nat) (ws : List Str) (z : Str) (i : Nat) : stepG (fun k => minO (some2 W il i (mmOf il W ws z i) k)) (agr ws (sgn z i)) = prev il W ws z i := by
  cases i <;> rfl
theorem mm_len {ws : List Str} {W : Nat} (ok : WordsOk ws W) (il : Bool) (z : Str) (i : Nat) : (mmOf il W ws z i).length ≤ 36 := by
  cases i with
  | zero => show 0 ≤ 36; decide
  | succ i => exact (prev_ok ok il z i).len
/-- rows[-1] if at > 0 else {} -/
theorem e_earlier {K : PySem.W.Frag} {σ : L2.St} {H : Hp} {R r : Addr} {il : Bool} {W : Nat} {ws : List Str} {z : Str} {i : Nat} {Q : VK} (h4 : σ[4]? = some (some (.int i))) (h3 : σ[3]? = some (some (.ref R))) (hD : DictsAt H R (tabs il W ws z i)) (hr : H r = some (.dT [])) (old : ∀ d m, d = r → H d = some (.dT (encB m)) → m = [] )
    (hne : ∀ ds : List Addr, H R = some (.lst (ds.map V.ref)) → ∀ d ∈ ds, d ≠ r) (q : ∀ H' e, Same H H' → H' e = some (.dT (encB (mmOf il W ws z i))) → e ≠ r → Q (.ref e) H') :
    tIf (tTest (tOp (rI0 fun i j => .bl (decide (j < i))) (tVar 4) (tC (.int 0)))) (tOp (rIxL K) (tVar 3) (tUn (rU fun i => .int (-i)) (tC (.int 1)))) tDNewT σ H Q := by
  refine ⟨_, h4, _, _, rfl, rfl, _, rfl, ?_⟩
  cases i with
  | zero =>
    rw [decide_eq_false (by decide : ¬ (0 : Int) < ((0 : Nat) : Int))]
    exact iteF fun e ne => q _ e (same_upd ne) upd_same (ne_of_none hr ne).symm
  | succ j =>
    rw [decide_eq_true (by omega : (0 : Int) < ((j + 1 : Nat) : Int))]
    obtain ⟨ds, h1, h2⟩ := hD
    rw [tabs_succ] at h2
    obtain ⟨ds', e, rfl, he⟩ := paired_unsnoc h2
    refine iteT ⟨_, h3, _, rfl, R, _, _, V.ref e, rfl, rfl, SqL.of h1, ?_, q _ e (.refl _) he (hne _ h1 e (by simp))⟩
    rw [List.map_append]
    exact atI_last _ _
section
variable {P : Program} {w : World} {K : PySem.W.Frag} {mg : Str → Option Value} {base : Heap}
abbrev N_le : List Str := ["words", "mark", "is_line", "rows", "at", "letter", "row", "earlier", "word", "spot", "some", "before", "bound"]
theorem sc_le : FnScope N_le ["words", "mark", "is_line"] (defScope s__law_least) := ⟨rfl, rfl, rfl, by decide +kernel, rfl, by decide +kernel, by decide +kernel⟩
theorem b_le : BindsX "_law_least" "_law_least" s__law_least ["words", "mark", "is_line"] := fun _ _ _ _ _ _ us hl => match us, hl with | [_, _, _], _ => rfl
theorem ok_le (T : Txt K mg) : CallC P w K mg base CX0 2 "_law_least" ["words", "mark", "is_line"] (spLeast K) := by
  refine ⟨kept_of T.f__law_least sc_le b_le (fun vs H Q E h => ?_) (fun cdv A outer s H vs Q E hr h => ?_), T.g__law_least, keep T.f__law_least⟩
  · obtain ⟨a, ws, W, il, z, rfl, _⟩ := h
    rfl
  · obtain ⟨a, ws, W, il, z, rfl, ha, ok, hz, q⟩ := h
    have hu := hu_of hr
    refine ⟨_, pss_cons (ps_set (i := 3) sc_le.nd rfl (.inl rfl) (pe_lst pa_nil))
      (pss_cons (ps_for PassesOwn.never rfl (pi_enumS (by rfl) T.z_enumerate (pa_cons (pv 1) pa_nil)) (pg_tup rfl (pgs_cons (pg_name (i := 4) sc_le.nd rfl (.inl rfl)) (pgs_cons (pg_name (i := 5) sc_le.nd rfl (.inl rfl)) pgs_nil)))
        (pss_cons (ps_par (i := 6) (j := 7) (by rfl) sc_le.nd rfl rfl (by decide) rfl rfl (pa_cons pe_dnewT (pa_cons (pe_ifExp (pt_cmpR op_gt (pv 4) pe_int (nomark _)) (pe_ix ix_list (pv 3) (pe_un un_neg pe_int) (fun _ _ => rfl)) pe_dnewT) pa_nil)) (by rfl))
        (pss_cons (ps_for PassesOwn.never rfl (pi_list (pe_callC (ok_la T) hr (by rfl) pass0 (pa_cons (pv 0) (pa_cons (pv 5) pa_nil)))) (pg_tup rfl (pgs_cons (pg_name (i := 8) sc_le.nd rfl (.inl rfl)) (pgs_cons (pg_name (i := 9) sc_le.nd rfl (.inl rfl)) pgs_nil)))
          (pss_cons (ps_set (i := 10) sc_le.nd rfl (.inl rfl) (pe_op op_rep (pe_lst (pa_cons pe_int pa_nil)) (pe_callTy call_int1 (by rfl) T.z_int (by decide +kernel) (pa_cons (pe_and (pe_cmpR op_eq (pv 4) pe_int (nomark _)) (pe_one (pe_or (pe_cmpR op_eq (pv 9) pe_int (nomark _)) (pe_one (pe_not (pv 2)))))) pa_nil))))
          (pss_cons (ps_lock (ps_for PassesOwn.never rfl (pi_itemsT (pv 7)) (pg_tup rfl (pgs_cons (pg_name (i := 11) sc_le.nd rfl (.inl rfl)) (pgs_cons (pg_name (i := 12) sc_le.nd rfl (.inl rfl)) pgs_nil)))
            (pss_cons (ps_if (pt_cmpR (op_eqD hr.units) (pv 11) (pe_tup (pa_cons (pv 8) (pa_cons (pe_op op_sub (pv 9) pe_int) pa_nil))) (nomark _)) (pss_one (ps_expr (pe_bm PySem.F.plainAttrs_list PySem.F.slot_list_append PySem.F.type_list_append mt_append (pv 10) (pa_cons (pv 12) pa_nil)))) pss_nil)
            (pss_one (ps_if (PW.pt (pw_or (pt_cmpR op_eq (pe_op op_add (pe_ix ix_tup (pv 11) pe_int (fun _ _ => rfl)) pe_int) (pe_callB call_len_str (by rfl) T.z_len PySem.boot_len (pa_cons (pe_ix ix_list (pv 0) pe_int (fun _ _ => rfl)) pa_nil)) (nomark _)) (pw_or1 (pt_cmpR op_eq (pv 9) pe_int (nomark _)))))
              (pss_one (ps_expr (pe_bm PySem.F.plainAttrs_list PySem.F.slot_list_append PySem.F.type_list_append mt_append (pv 10) (pa_cons (pe_op op_add (pv 12) pe_int) pa_nil)))) pss_nil)))))
          (pss_one (ps_if (pt_cmpR (op_neD hr.units) (pv 10) (pe_lst pa_nil) (nomark _)) (pss_one (ps_dput hu (pv 6) (pe_tup (pa_cons (pv 8) (pa_cons (pv 9) pa_nil))) (pe_callB (cr_min rfl) (by rfl) T.z_min (by decide +kernel) (pa_cons (pv 10) pa_nil)) rfl)) pss_nil)))))
        (pss_one (ps_expr (pe_bm PySem.F.plainAttrs_list PySem.F.slot_list_append PySem.F.type_list_append mt_append (pv 3) (pa_cons (pv 6) pa_nil)))))))
      (pss_one (ps_ret (pv 3)))), ?_⟩
    refine ⟨by show 0 ≤ sizeLine; decide, fun R nR => ?_⟩
    obtain ⟨z1, z2, z3⟩ := id hz
    refine ⟨_, rfl, z, rfl, ?_⟩
    refine for_it walk_enumS (fun i σ H' => (∃ v4 v5 v6 v7 v8 v9 v10 v11 v12, σ = [some (.ref a), some (.str z), some (.bl il), some (.ref R), v4, v5, v6, v7, v8, v9, v10, v11, v12]) ∧ Same H H' ∧ DictsAt H' R (tabs il W ws z i)) ⟨⟨_, _, _, _, _, _, _, _, _, rfl⟩, same_upd nR, [], upd_same, .nil⟩ (fun _ _ _ _ _ => trivial) ?_ ?_
    · rintro i x σ H1 H2 hi ⟨⟨v4, v5, v6, v7, v8, v9, v10, v11, v12, rfl⟩, s1, hD1⟩ ⟨T0, c, rfl, nT, hc, rfl⟩
      have st := same_upd (o := .tup [V.int (i : Nat), V.str ⟨#[c]⟩]) nT
      have hT := upd_same (H := H1) (a := T0) (o := .tup [V.int (i : Nat), V.str ⟨#[c]⟩])
      have s2 := s1.trans st
      have hD2 := hD1.same st
      have hi120 : i < 120 := Nat.lt_of_lt_of_le hi z2
      have ec : sgn z i = c := by
        have g := sgn_at (z := z) (i := i) hi
        rw [hc] at g
        exact (Option.some.inj g).symm
      clear st
      generalize upd H1 T0 (.tup [V.int (i : Nat), V.str ⟨#[c]⟩]) = H2 at hT s2 hD2
      refine ⟨T0, _, rfl, SqT.of hT, rfl, _, _, rfl, _, _, rfl, rfl, ?_⟩
      intro r nr
      have s23 := same_upd (o := .dT []) nr
      have hr3 := upd_same (H := H2) (a := r) (o := .dT [])
      have hD3 := hD2.same s23
      unfold tCons
      refine e_earlier (R := R) (r := r) (il := il) (W := W) (ws := ws) (z := z) (i := i) rfl rfl hD3 hr3 (fun d m e h => ?_) (fun ds hds d hd => ?_) fun H4 e s34 he er => ⟨_, _, rfl, ?_⟩
      · subst e
        rw [hr3] at h
        injection h with h
        injection h with h
        cases m with
        | nil => rfl
        | cons _ _ => cases h
      · obtain ⟨ds', h1, h2⟩ := hD2
        have h1' := s23 _ _ h1
        rw [hds] at h1'
        injection h1' with h1'
        injection h1' with h1'
        have e2 : ds = ds' := (List.map_inj_right (fun a b z => by injection z)).mp h1'
        subst e2
        obtain ⟨n, hn⟩ := List.mem_iff_getElem?.mp hd
        obtain ⟨m, _, hm⟩ := paired_get h2 hn
        exact ne_of_none hm nr
      have hr4 := s34 _ _ hr3
      have hD4 := hD3.same s34
      have s24 := s23.trans s34
      have s04 := s2.trans s24
      have lmm := mm_len ok il z i
      have step := mm_step il W ws z i
      rw [ec] at step
      generalize mmOf il W ws z i = mm at he lmm step
      refine ⟨_, rfl, _, rfl, a, ws, W, c, rfl, s04 _ _ ha, ok, fun H5 pa s45 npa ⟨qs, hpa, hk⟩ => ⟨pa, rfl, ⟨_, SqL.of hpa⟩, ?_⟩⟩
      have hr5 := s45 _ _ hr4
      have he5 := s45 _ _ he
      have s05 := s04.trans s45
      have la2 : (agr ws c).length ≤ 36 := Nat.le_trans (agrN_len (c := c) ok.len ws.length (Nat.le_refl _)) ok.all
      have rpa : r ≠ pa := ne_of hr5 hpa (by intro z; cases z)
      have ndk := agr_nodup ws c
      have nrH : H r = none := s2.free nr
      refine for_list (K := K) (a := pa) (xs := qs.map V.ref) (fun n σ H' => (∃ v8 v9 v10 v11 v12, σ = [some (.ref a), some (.str z), some (.bl il), some (.ref R), some (.int i), some (.str ⟨#[c]⟩), some (.ref r), some (.ref e), v8, v9, v10, v11, v12]) ∧ SameBut r H5 H' ∧ H' r = some (.dT (encB (stepG (fun k => minO (some2 W il i mm k)) ((agr ws c).take n))))) ⟨⟨_, _, _, _, _, rfl⟩, .refl _ _, hr5⟩ (fun n σ H' _ h => SqL.of (h.2.1 _ _ rpa.symm hpa)) ?_ ?_
      · rintro n x σ H6 hx ⟨⟨v8, v9, v10, v11, v12, rfl⟩, s6, hr6⟩
        rw [List.getElem?_map] at hx
        obtain ⟨qa, hqa, rfl⟩ := Option.map_eq_some_iff.mp hx
        obtain ⟨k, hk3, hqt⟩ := keys_get hk hqa
        have ht : H6 qa = some (.tup [.int k.1, .int k.2]) := s6 _ _ (ne_of hqt hr5 (by intro z; cases z)) hqt
        have he6 := s6 _ _ er he5
        have ha6 : H6 a = some (.lst (ws.map V.str)) := s6 _ _ (ne_of_none ha nrH) (s05 _ _ ha)
        have tk : (agr ws c).take (n + 1) = (agr ws c).take n ++ [k] := by rw [List.take_add_one, hk3]; rfl
        refine ⟨qa, _, rfl, SqT.of ht, rfl, _, _, rfl, _, _, rfl, rfl, ?_⟩
        refine e_base (il := il) (i := i) (k := k) rfl rfl rfl fun H7 S s7 nS hS => ?_
        have he7 := s7 _ _ he6
        have ha7 := s7 _ _ ha6
        have hr7 := s7 _ _ hr6
        -- for before, bound in earlier.items()
        refine ⟨e, _, he7, trivial, fun od => ⟨_, rfl, e, od, encB mm, rfl, upd_same, ?_⟩⟩
        have lk : upd H7 e (.frz od (.dT (encB mm))) e = some (.frz od (.dT (encB mm))) := upd_same
        have Se : S ≠ e := ne_of hS he7 (by intro z; cases z)
        have hSL : upd H7 e (.frz od (.dT (encB mm))) S = some (.lst ((base1 il i k ++ (mm.take 0).flatMap (one2 W k)).map V.int)) := by
          rw [upd_ne Se, hS]
          simp
        have haL : upd H7 e (.frz od (.dT (encB mm))) a = some (.lst (ws.map V.str)) := by rw [upd_ne (ne_of ha7 he7 (by intro z; cases z))]; exact ha7
        have outL : ∀ b o, b ≠ e → H7 b = some o → upd H7 e (.frz od (.dT (encB mm))) b = some o := fun b o ne h => by rw [upd_ne ne]; exact h
        have Sa : a ≠ S := ne_of_none ha6 nS
        have lb : (base1 il i k).length ≤ 1 := by unfold base1; split <;> simp
        have l2 : ∀ n, ((mm.take n).flatMap (one2 W k)).length ≤ 2 * n := fun n => by
          have : ∀ l : Bs, (l.flatMap (one2 W k)).length ≤ 2 * l.length := fun l => by
            induction l with
            | nil => simp
            | cons x r ih =>
              rw [List.flatMap_cons, List.length_append, List.length_cons]
              have : (one2 W k x).length ≤ 2 := by unfold one2; rw [List.length_append]; split <;> split <;> simp
              omega
          have h := this (mm.take n)
          rw [List.length_take] at h
          omega
        generalize hHL : upd H7 e (.frz od (.dT (encB mm))) = HL at lk hSL haL outL
        refine for_it walk_itemsT (fun n σ H' => (∃ v11 v12, σ = [some (.ref a), some (.str z), some (.bl il), some (.ref R), some (.int i), some (.str ⟨#[c]⟩), some (.ref r), some (.ref e), some (.int k.1), some (.int k.2), some (.ref S), v11, v12]) ∧ SameBut S HL H' ∧ H' S = some (.lst ((base1 il i k ++ (mm.take n).flatMap (one2 W k)).map V.int))) ⟨⟨_, _, rfl⟩, .refl _ _, hSL⟩ (fun n σ H' _ h => h.2.1 _ _ Se.symm lk) ?_ ?_
        · rintro n x σ H8 H9 hn ⟨⟨v11, v12, rfl⟩, s8, hS8⟩ ⟨T1, kk, v, qb, hkv, hqb, rfl, nT1, rfl⟩
          obtain ⟨en, hen, rfl, rfl⟩ := encB_get hkv
          have s89 := same_upd (o := .tup [V.ref qb, V.int en.2]) nT1
          have hT1 := upd_same (H := H8) (a := T1) (o := .tup [V.ref qb, V.int en.2])
          have hq9 := s89 _ _ hqb
          have hS9 := s89 _ _ hS8
          have ha9 := s89 _ _ (s8 _ _ Sa haL)
          have s9 := s8.trans (Ov.Same.but s89)
          clear s89
          generalize upd H8 T1 (.tup [V.ref qb, V.int en.2]) = H9 at hT1 hq9 hS9 ha9 s9
          have tk1 : mm.take (n + 1) = mm.take n ++ [en] := by rw [List.take_add_one, hen]; rfl
          have g2 := l2 n
          have hn36 : n < 36 := by
            have := (List.getElem?_eq_some_iff.mp hen).1
            omega
          refine ⟨T1, _, rfl, SqT.of hT1, rfl, _, _, rfl, _, _, rfl, rfl, ?_⟩
          refine e_one (S := S) (q := qb) (cur := base1 il i k ++ (mm.take n).flatMap (one2 W k)) (k := k) (k' := en.1) (b := en.2) rfl rfl rfl rfl rfl hq9 hS9 (by rw [List.length_append]; omega) fun H10 s10 hS10 => ?_
          refine e_two (S := S) (q := qb) (a := a) (cur := (base1 il i k ++ (mm.take n).flatMap (one2 W k)) ++ if en.1 = (k.1, k.2 - 1) then [en.2] else []) (k := k) (k' := en.1) (b := en.2) (ws := ws) (W := W) rfl rfl rfl rfl rfl ok (s10 _ _ Sa ha9) (s10 _ _ (ne_of hq9 hS9 (by intro z; cases z)) hq9) hS10 ?_ fun H11 s11 hS11 => ?_
          · have l3 : (if en.1 = (k.1, k.2 - 1) then [en.2] else []).length ≤ 1 := by split <;> simp
            rw [List.length_append, List.length_append]
            omega
          · refine ⟨⟨_, _, rfl⟩, (s9.trans s10).trans s11, ?_⟩
            rw [hS11, tk1, List.flatMap_append]
            simp only [List.flatMap_cons, List.flatMap_nil, List.append_nil, one2, List.append_assoc]
        · rintro σ H8 ⟨⟨v11, v12, rfl⟩, s8, hS8⟩
          rw [encB_len, List.take_length] at hS8
          rw [← some2_eq] at hS8
          refine ⟨s8 _ _ Se.symm lk, ?_⟩
          -- unlocked
          have hS9 : upd H8 e (.dT (encB mm)) S = some (.lst ((some2 W il i mm k).map V.int)) := by rw [upd_ne Se]; exact hS8
          have s79 : ∀ b o, b ≠ S → H7 b = some o → upd H8 e (.dT (encB mm)) b = some o := fun b o nb hb => by
            by_cases c : b = e
            · subst c
              rw [he7] at hb
              rw [upd_same]
              exact hb
            · rw [upd_ne c]
              exact s8 _ _ nb (outL b o c hb)
          have s69 : Same H6 (upd H8 e (.dT (encB mm))) := fun b o hb => s79 b o (ne_of_none hb nS) (s7 b o hb)
          generalize upd H8 e (.dT (encB mm)) = H9 at hS9 s69
          refine ⟨_, rfl, by show 0 ≤ sizeLine; decide, fun e0 ne0 => ⟨_, _, .lst (SqL.of ((same_upd ne0) _ _ hS9)) (dp_ints _), .lst (SqL.of upd_same) .nil, shaped_ints _, by decide, _, rfl, ?_⟩⟩
          have s9 := same_upd (o := .lst []) ne0
          have stt : SameBut r H5 (upd H9 e0 (.lst [])) := s6.trans (Ov.Same.but (s69.trans s9))
          have hr10 := s9 _ _ (s69 _ _ hr6)
          have hS10 := s9 _ _ hS9
          generalize upd H9 e0 (.lst []) = H10 at stt hr10 hS10
          have kn : k ∉ (stepG (fun k => minO (some2 W il i mm k)) ((agr ws c).take n)).map (·.1) := fun z => nodup_take ndk hk3 ((stepG_keys _ _).subset z)
          cases hs : some2 W il i mm k with
          | nil =>
            rw [ints_nil, Bool.not_true]
            refine iteF ⟨⟨_, _, _, _, _, rfl⟩, stt, ?_⟩
            rw [tk, stepG_snoc, hs]
            simpa [minO] using hr10
          | cons b0 br =>
            rw [ints_cons, Bool.not_false]
            refine iteT ⟨_, rfl, S, some2 W il i mm k, rfl, SqL.of hS10, by rw [hs]; simp, fun mm1 hm1 hm2 => ⟨_, rfl, _, rfl, _, rfl, by show 2 ≤ sizeLine; decide, fun t nt => ⟨r, _, rfl, DPut.t (k := kT k) ((same_upd nt) _ _ hr10) upd_same ?_, ⟨_, _, _, _, _, rfl⟩, ?_, ?_⟩⟩⟩
            · rw [encB_len]
              have g1 := (stepG_keys (fun k => minO (some2 W il i mm k)) ((agr ws c).take n)).length_le
              rw [List.length_map, List.length_take] at g1
              exact small1000 (by omega)
            · exact (stt.trans (Ov.Same.but (same_upd nt))).trans .upd
            · rw [upd_same, put_enc kn, tk, stepG_snoc]
              simp only [minO_of hm1 hm2]
      · rintro σ H6 ⟨⟨v8, v9, v10, v11, v12, rfl⟩, s6, hr6⟩
        rw [List.length_map, keys_len hk, List.take_length, step] at hr6
        have hD5 := hD4.same s45
        obtain ⟨ds, hR5, hd5⟩ := hD5
        have Rr : R ≠ r := ne_of hR5 hr5 (by intro z; cases z)
        have hR6 := s6 _ _ Rr hR5
        have lds := paired_len hd5
        have lT2 : (tabs il W ws z i).length = i := by unfold tabs; rw [List.length_map, List.length_range]
        have s06 : Same H H6 := fun b o hb => s6 b o (ne_of_none hb nrH) (s05 b o hb)
        have dne : ∀ m d, H5 d = some (.dT (encB m)) → d ∈ ds → d ≠ r := fun m d hd hm => by
          obtain ⟨ds', h1, h2⟩ := hD2
          have h1' := s45 _ _ (s24 _ _ h1)
          rw [hR5] at h1'
          injection h1' with h1'
          injection h1' with h1'
          have e2 : ds = ds' := (List.map_inj_right (fun a b z => by injection z)).mp h1'
          subst e2
          obtain ⟨n, hn⟩ := List.mem_iff_getElem?.mp hm
          obtain ⟨m2, _, hm2⟩ := paired_get h2 hn
          exact ne_of_none hm2 nr
        refine ⟨_, rfl, .inl ⟨rfl, _, SqL.of hR6⟩, _, rfl, R, _, _, rfl, rfl, hR6, by rw [List.length_map, lds, lT2]; exact small1000 (by omega), ⟨_, _, _, _, _, _, _, _, _, rfl⟩, SameBut.same s06 nR .upd, ds ++ [r], by rw [upd_same, List.map_append]; rfl, ?_⟩
        rw [tabs_succ]
        refine paired_snoc (by rw [upd_ne Rr.symm]; exact hr6) ?_
        refine paired_mem (fun m d hm hd => ?_) hd5
        rw [upd_ne (ne_of hd hR5 (by intro z; cases z))]
        exact s6 _ _ (dne m d hd hm) hd
    · rintro σ H1 ⟨⟨v4, v5, v6, v7, v8, v9, v10, v11, v12, rfl⟩, s1, hD1⟩
      exact ⟨_, rfl, q _ R s1 hD1⟩
end
end K42

set_option Elab.async false
set_option linter.all false
set_option maxRecDepth 100000
set_option maxHeartbeats 4000000
namespace K42
open PySem PySem.Spec PyProof.Rows L2 He Ov
/-! ### texts of single signs -/
def sgs (cs : List Nat) : List V := cs.map fun c => V.str ⟨#[c]⟩
def ofCs (cs : List Nat) : Str := Txt.join Str.empty (cs.map fun c => ⟨#[c]⟩)
theorem ofCs_cps (cs : List Nat) : (ofCs cs).cps.toList = cs := by
  unfold ofCs
  rw [TL.join_eq]
  have h := TL.tl_join Str.empty (cs.map fun c => (⟨#[c]⟩ : Str))
  refine h.trans ?_
  rw [List.map_map]
  have e : TL.tl Str.empty = [] := rfl
  rw [e]
  clear h e
  induction cs with
  | nil => rfl
  | cons c r ih =>
    cases r with
    | nil => rfl
    | cons d r2 =>
      show [c] ++ ([] ++ TL.joinL [] ((d :: r2).map _)) = c :: d :: r2
      rw [ih]; rfl
theorem ofCs_len (cs : List Nat) : (ofCs cs).length = cs.length := by
  have h := congrArg List.length (ofCs_cps cs)
  rw [Array.length_toList] at h
  exact h
theorem sgs_eq (cs : List Nat) : sgs cs = (cs.map fun c => (⟨#[c]⟩ : Str)).map V.str := by unfold sgs; rw [List.map_map]; rfl
theorem sgs_sum (cs : List Nat) : ((cs.map fun c => (⟨#[c]⟩ : Str)).map (·.length)).sum + (cs.map fun c => (⟨#[c]⟩ : Str)).length * Str.empty.length = cs.length := by
  have e : Str.empty.length = 0 := rfl
  rw [e, Nat.mul_zero, Nat.add_zero, List.map_map]
  induction cs with
  | nil => rfl
  | cons c r ih => rw [List.map_cons, List.sum_cons, ih, List.length_cons]; show 1 + r.length = r.length + 1; omega
def spLWords : Sp := fun vs H Q _ => ∃ (v : Addr) (wide n most : Nat), vs = [.ref v, .int wide, .int most] ∧ 1 ≤ most ∧ most ≤ 6 ∧ Vat H v n ∧ n < 2 ^ 18 ∧ 1 ≤ wide ∧ wide ≤ 8 ∧
  ∀ H' p ws, SameBut v H H' → Vat H' v (n + 60) → H p = none → H' p = some (.lst (ws.map V.str)) → WordsOk ws wide → Q (.ref p) H'
/-- what has been found -/
structure Fnd (ws : List Str) (wide i : Nat) : Prop where
  le : ws.length ≤ i
  ne : 0 < i → 1 ≤ ws.length
  nd : ws.Nodup
  len : ∀ w ∈ ws, w.length = wide
  abc : ∀ w ∈ ws, Abc w
theorem inV_str {w : Str} : ∀ {ws : List Str}, inV (.str w) (ws.map V.str) = decide (w ∈ ws)
  | [] => rfl
  | x :: r => by
    have ih := inV_str (w := w) (ws := r)
    unfold inV at *
    rw [List.map_cons, List.any_cons, ih]
    have e : eqV (.str x) (.str w) = decide (x = w) := by
      show (x == w) = decide (x = w)
      by_cases c : x = w
      · rw [decide_eq_true c]; exact beq_iff_eq.mpr c
      · rw [decide_eq_false c]; exact beq_eq_false_iff_ne.mpr c
    rw [e]
    by_cases c : x = w
    · subst c; simp
    · have c2 : ¬ w = x := fun z => c z.symm
      simp [c, c2]
theorem SameBut.put {a D : Addr} {H H1 : Hp} {o : HO} (s : SameBut a H H1) (h : H D = none) : SameBut a H (upd H1 D o) := fun b x n e => by
  rw [upd_ne (ne_of_none e h)]
  exact s b x n e
section
variable {P : Program} {w : World} {K : PySem.W.Frag} {mg : Str → Option Value} {base : Heap}
abbrev N_lw : List Str := ["vat", "wide", "most", "signs", "found", "turn", "word", "spot"]
theorem sc_lw : FnScope N_lw ["vat", "wide", "most"] (defScope s__law_words) := ⟨rfl, rfl, rfl, by decide +kernel, rfl, by decide +kernel, by decide +kernel⟩
theorem b_lw : BindsX "_law_words" "_law_words" s__law_words ["vat", "wide", "most"] := fun _ _ _ _ _ _ us hl => match us, hl with | [_, _, _], _ => rfl
theorem ok_lw (T : Txt K mg) : CallC P w K mg base CX0 2 "_law_words" ["vat", "wide", "most"] spLWords := by
  refine ⟨kept_of T.f__law_words sc_lw b_lw (fun vs H Q E h => ?_) (fun cdv A outer s H vs Q E hr h => ?_), T.g__law_words, keep T.f__law_words⟩
  · obtain ⟨v, wide, n, most, rfl, _⟩ := h
    rfl
  · obtain ⟨v, wide, n, most, rfl, hm1, hm6, hv, hn, w1, w8, q⟩ := h
    refine ⟨_, pss_cons (ps_set (i := 3) sc_lw.nd rfl (.inr rfl) (pe_ix ix_list (pe_lst (pa_cons pe_str (pa_cons pe_str (pa_cons pe_str pa_nil)))) (pe_callC (ok_sip T) hr (by rfl) pass0 (pa_cons (pv 0) (pa_cons pe_int pa_nil))) (fun _ _ => rfl)))
      (pss_cons (ps_set (i := 4) sc_lw.nd rfl (.inl rfl) (pe_lst pa_nil))
      (pss_cons (ps_for PassesOwn.never rfl (pi_range1 (by rfl) T.z_range (pa_cons (pe_op op_add pe_int (pe_callC (ok_sip T) hr (by rfl) pass0 (pa_cons (pv 0) (pa_cons (pe_callB (call_min2 rfl) (by rfl) T.z_min (by decide +kernel) (pa_cons (pv 2) (pa_cons (pe_op op_fdivN pe_int (pv 1)) pa_nil))) pa_nil)))) pa_nil)) (pg_name (i := 5) sc_lw.nd rfl (.inl rfl))
        (pss_cons (ps_set (i := 6) sc_lw.nd rfl (.inl rfl) (pe_join pe_str (pe_lc (own := [("spot", 7)]) rfl sc_lw.nd (pi_range1 (by rfl) T.z_range (pa_cons (pv 1) pa_nil)) (blkOk_by (N := N_lw) (sc := defScope s__law_words) (by decide +kernel))
          (fun _ _ _ _ _ => pg_name (i := 7) sc_lw.nd rfl (.inl rfl)) (fun _ _ _ _ _ => pts_nil) (fun _ _ _ _ _ => pe_ix ix_str (pv 3) (pe_callC (ok_sip T) hr (by rfl) pass0 (pa_cons (pv 0) (pa_cons (pe_callB call_len_str (by rfl) T.z_len PySem.boot_len (pa_cons (pv 3) pa_nil)) pa_nil))) (fun _ _ => rfl)))))
        (pss_one (ps_set (i := 4) sc_lw.nd rfl (.inl rfl) (pe_op op_cat (pv 4) (pe_op op_rep (pe_lst (pa_cons (pv 6) pa_nil)) (pe_callTy call_int1 (by rfl) T.z_int (by decide +kernel) (pa_cons (pe_cmpR op_notIn_seq (pv 6) (pv 4) (by rfl)) pa_nil))))))))
      (pss_one (ps_ret (pv 4))))), ?_⟩
    refine ⟨by show 3 ≤ sizeLine; decide, fun L nL => ?_⟩
    have sL := same_upd (o := .lst [V.str "ab", V.str "abc", V.str ABC]) nL
    have vL : v ≠ L := by
      obtain ⟨x, y, z, h1, _⟩ := hv
      exact ne_of_none h1 nL
    refine ⟨_, rfl, v, 3, n, rfl, hv.same sL, by omega, by decide, by decide, fun H1 r r0 r1 s1 v1 => ?_⟩
    obtain ⟨sg, hsg, g1, g2, g3⟩ : ∃ sg : Str, atI [V.str "ab", V.str "abc", V.str ABC] r = some (.str sg) ∧ 1 ≤ sg.length ∧ sg.length ≤ 26 ∧ Abc sg := by
      have hr3 : r = 0 ∨ r = 1 ∨ r = 2 := by omega
      rcases hr3 with rfl | rfl | rfl
      · exact ⟨"ab", rfl, by decide, by decide, by unfold Abc; decide⟩
      · exact ⟨"abc", rfl, by decide, by decide, by unfold Abc; decide⟩
      · exact ⟨ABC, rfl, by decide, by decide, fun c h => h⟩
    have hL1 := s1 _ _ vL.symm upd_same
    have s01 : SameBut v H H1 := (Ov.Same.but sL).trans s1
    refine ⟨L, _, _, _, rfl, rfl, SqL.of hL1, hsg, ?_⟩
    refine ⟨by show 0 ≤ sizeLine; decide, fun F0 nF => ?_⟩
    have sF := same_upd (o := .lst []) nF
    have v2 := v1.same sF
    have hF0 := upd_same (H := H1) (a := F0) (o := .lst [])
    have s02 : SameBut v H (upd H1 F0 (.lst [])) := s01.trans (Ov.Same.but sF)
    have keepN : ∀ {H' : Hp} {p : Addr}, SameBut v H H' → (∃ m, Vat H' v m) → H' p = none → H p = none := fun {H' p} sb vv np => by
      cases e : H p with
      | none => rfl
      | some o =>
        by_cases c : p = v
        · subst c
          obtain ⟨m, x, y, z, h1, _⟩ := vv
          rw [h1] at np
          cases np
        · have := sb p o c e
          rw [np] at this
          cases this
    have nF0H : H F0 = none := keepN s01 ⟨_, v1⟩ nF
    generalize upd H1 F0 (.lst []) = H2 at v2 hF0 s02
    have ed : (36 : Int).fdiv wide = 36 / (wide : Int) := Int.fdiv_eq_ediv_of_nonneg 36 (by omega)
    have t1 : 4 ≤ (36 : Int) / (wide : Int) := Int.le_ediv_of_mul_le (by omega) (by omega)
    have t2 : (36 : Int) / (wide : Int) * (wide : Int) ≤ 36 := Int.ediv_mul_le 36 (by omega)
    refine ⟨_, rfl, _, rfl, _, rfl, _, _, rfl, rfl, ⟨by omega, by omega⟩, _, _, rfl, ?_⟩
    rw [ed]
    generalize hmost : (if (36 : Int) / (wide : Int) < (most : Int) then (36 : Int) / (wide : Int) else (most : Int)) = mo
    have m1 : 1 ≤ mo ∧ mo ≤ 6 ∧ mo ≤ 36 / (wide : Int) := by rw [← hmost]; split <;> omega
    refine ⟨v, mo, n + 1, rfl, v2, by omega, by omega, by omega, fun H3 r2 r20 r21 s3 v3 => ⟨_, _, rfl, rfl, _, rfl, by omega, by omega, ?_⟩⟩
    have v0 : ∀ {H' : Hp} {m : Nat}, Vat H' v m → H' v ≠ none := fun ⟨x, y, z, h1, _⟩ => by rw [h1]; simp
    have vF0 : F0 ≠ v := fun e => by
      obtain ⟨x, y, z, h1, _⟩ := hv
      rw [e, h1] at nF0H
      cases nF0H
    refine for_range (lo := 0) (n := (1 + r2).toNat) (fun i σ H' => (∃ F ws tv wv, σ = [some (.ref v), some (.int wide), some (.int most), some (.str sg), some (.ref F), tv, wv, none] ∧ H' F = some (.lst (ws.map V.str)) ∧ H F = none ∧ Fnd ws wide i) ∧ SameBut v H H' ∧ Vat H' v (n + 2 + i * wide)) ⟨⟨F0, [], _, _, rfl, s3 _ _ vF0 hF0, nF0H, ⟨Nat.le_refl _, fun h => absurd h (by decide), List.nodup_nil, fun w h => absurd h (by simp), fun w h => absurd h (by simp)⟩⟩, s02.trans s3, by simpa using v3⟩ ?_ ?_
    · rintro i σ H4 hi ⟨⟨F, ws, tv, wv, rfl, hF, nFH, fnd⟩, s4, v4⟩
      have hi6 : i < 6 := by omega
      have iw : i * wide ≤ 5 * 8 := Nat.mul_le_mul (by omega) w8
      refine ⟨⟨_, rfl⟩, _, rfl, _, rfl, by omega, by omega, fun D nD => ?_⟩
      have vD : D ≠ v := fun e => v0 v4 (e ▸ nD)
      have nDH : H D = none := keepN s4 ⟨_, v4⟩ nD
      refine lc_range (lo := 0) (n := (wide : Int).toNat) (fun j H' => SameBut v H4 H' ∧ Vat H' v (n + 2 + i * wide + j) ∧ ∃ cs, H' D = some (.lst (sgs cs)) ∧ cs.length = j ∧ ∀ c ∈ cs, c ∈ ABC.cps.toList) ⟨Ov.Same.but (same_upd nD), v4.same (same_upd nD), [], upd_same, rfl, fun c h => absurd h (by simp)⟩ ?_ ?_
      · rintro j H5 hj ⟨s5, v5, cs, hD5, lc, ac⟩
        refine ⟨rfl, lcY ⟨_, rfl, _, rfl, _, rfl, _, rfl, len_le (by omega), v, _, _, rfl, v5, by omega, by omega, by omega, fun H6 r3 r30 r31 s6 v6 => ?_⟩⟩
        obtain ⟨c, hc⟩ : ∃ c, sg.cps[r3.toNat]? = some c := ⟨_, Array.getElem?_eq_getElem (by show r3.toNat < sg.length; omega)⟩
        have hc2 : atI sg.cps.toList r3 = some c := by
          have e : r3 = (r3.toNat : Int) := by omega
          rw [e]
          exact atI_nat (by rw [Array.getElem?_toList]; exact hc)
        refine ⟨sg, r3, c, rfl, rfl, len_le (by omega), hc2, _, s6 _ _ vD hD5, ?_, ?_, ?_, cs ++ [c], ?_, ?_, ?_⟩
        · unfold sgs
          rw [List.length_map]
          exact small1000 (by omega)
        · refine SameBut.put (s5.trans s6) nD
        · obtain ⟨x, y, z, h1, hrest⟩ := v6
          exact ⟨x, y, z, by rw [upd_ne vD.symm]; exact h1, by simpa [Nat.add_assoc] using hrest⟩
        · rw [upd_same]
          unfold sgs
          rw [List.map_append]; rfl
        · rw [List.length_append, lc]; rfl
        · intro x hx
          rcases List.mem_append.mp hx with z | z
          · exact ac x z
          · rw [List.mem_singleton.mp z]
            exact g3 c (by rw [← Array.getElem?_toList] at hc; exact List.mem_of_getElem? hc)
      · rintro H5 ⟨s5, v5, cs, hD5, lc, ac⟩
        have lc2 : cs.length = wide := by omega
        have hF5 : H5 F = some (.lst (ws.map V.str)) := s5 _ _ (fun e => by
          obtain ⟨x, y, z, h1, _⟩ := hv
          rw [e, h1] at nFH
          cases nFH) hF
        have sH5 : SameBut v H H5 := s4.trans s5
        refine ⟨Str.empty, D, cs.map fun c => ⟨#[c]⟩, rfl, rfl, .inl (by rw [← sgs_eq]; exact SqL.of hD5), by rw [sgs_sum]; omega, ?_⟩
        have lw2 : (ofCs cs).length = wide := by rw [ofCs_len, lc2]
        have aw : Abc (ofCs cs) := by
          unfold Abc
          rw [ofCs_cps]
          exact ac
        obtain ⟨wd, ew⟩ : ∃ wd, wd = Txt.join Str.empty (cs.map fun c => (⟨#[c]⟩ : Str)) := ⟨_, rfl⟩
        rw [← ew]
        have ew2 : wd = ofCs cs := ew
        rw [← ew2] at lw2 aw
        clear ew ew2
        refine ⟨_, rfl, _, rfl, by show 1 ≤ sizeLine; decide, fun l nl => ?_⟩
        have sl := same_upd (o := .lst [V.str wd]) nl
        have hl := upd_same (H := H5) (a := l) (o := .lst [V.str wd])
        have hF6 := sl _ _ hF5
        have v6 := v5.same sl
        have sH6 : SameBut v H (upd H5 l (.lst [V.str wd])) := sH5.trans (Ov.Same.but sl)
        clear sl
        generalize upd H5 l (.lst [V.str wd]) = H6 at hl hF6 v6 sH6
        refine ⟨_, rfl, _, rfl, F, _, rfl, .inl (SqL.of hF6), rfl, flat_strs ws, .inr ⟨!decide (wd ∈ ws), by rw [inV_str]; rfl, ?_⟩⟩
        have fin : ∀ (ws' : List Str) (H7 : Hp) (p2 : Addr), SameBut v H H7 → Vat H7 v (n + 2 + i * wide + (wide : Int).toNat) → H7 p2 = none → Fnd ws' wide (i + 1) →
            (∃ F ws tv wv, [some (V.ref v), some (.int wide), some (.int most), some (.str sg), some (.ref p2), some (.int (0 + (i : Int))), some (.str wd), none] = [some (V.ref v), some (.int wide), some (.int most), some (.str sg), some (.ref F), tv, wv, none] ∧ upd H7 p2 (.lst (ws'.map V.str)) F = some (.lst (ws.map V.str)) ∧ H F = none ∧ Fnd ws wide (i + 1)) ∧ SameBut v H (upd H7 p2 (.lst (ws'.map V.str))) ∧ Vat (upd H7 p2 (.lst (ws'.map V.str))) v (n + 2 + (i + 1) * wide) := fun ws' H7 p2 s7 v7 np2 f7 =>
          ⟨⟨p2, ws', _, _, rfl, upd_same, keepN s7 ⟨_, v7⟩ np2, f7⟩, s7.trans (Ov.Same.but (same_upd np2)), (v7.same (same_upd np2)).mono (by rw [Nat.add_mul]; omega)⟩
        have lle := fnd.le
        by_cases c : wd ∈ ws
        · rw [decide_eq_true c]
          refine ⟨l, 0, _, rfl, rfl, hl, by decide, by decide, by show 0 ≤ sizeLine; decide, fun p np => ⟨F, p, _, _, rfl, rfl, (same_upd np) _ _ hF6, upd_same, by rw [List.length_map]; show ws.length + 0 ≤ sizeLine; exact Nat.le_of_lt (small1000 (by omega)), fun p2 np2 => ?_⟩⟩
          have e : ws.map V.str ++ (List.replicate (0 : Int).toNat [V.str wd]).flatten = ws.map V.str := by simp
          rw [e]
          exact fin ws _ p2 (sH6.trans (Ov.Same.but (same_upd np))) (v6.same (same_upd np)) np2 ⟨by omega, fun _ => List.length_pos_of_mem c, fnd.nd, fnd.len, fnd.abc⟩
        · rw [decide_eq_false c]
          refine ⟨l, 1, _, rfl, rfl, hl, by decide, by decide, by show 1 ≤ sizeLine; decide, fun p np => ⟨F, p, _, _, rfl, rfl, (same_upd np) _ _ hF6, upd_same, by rw [List.length_map]; show ws.length + 1 ≤ sizeLine; exact Nat.le_of_lt (small1000 (by omega)), fun p2 np2 => ?_⟩⟩
          have e : ws.map V.str ++ (List.replicate (1 : Int).toNat [V.str wd]).flatten = (ws ++ [wd]).map V.str := by simp
          rw [e]
          refine fin (ws ++ [wd]) _ p2 (sH6.trans (Ov.Same.but (same_upd np))) (v6.same (same_upd np)) np2 ⟨by rw [List.length_append]; simp; omega, fun _ => by rw [List.length_append]; simp, ?_, ?_, ?_⟩
          · rw [List.nodup_append]
            exact ⟨fnd.nd, by simp, fun a ha b hb e => c (by rw [List.mem_singleton.mp hb] at e; exact e ▸ ha)⟩
          · intro x hx
            rcases List.mem_append.mp hx with z | z
            · exact fnd.len x z
            · rw [List.mem_singleton.mp z]; exact lw2
          · intro x hx
            rcases List.mem_append.mp hx with z | z
            · exact fnd.abc x z
            · rw [List.mem_singleton.mp z]; exact aw
    · rintro σ H4 ⟨⟨F, ws, tv, wv, rfl, hF, nFH, fnd⟩, s4, v4⟩
      have ne := fnd.ne (by omega)
      have le := fnd.le
      have iw : (1 + r2).toNat * wide ≤ 6 * 8 := Nat.mul_le_mul (by omega) w8
      refine ⟨_, rfl, q _ F ws s4 (v4.mono (by omega)) nFH hF ⟨ne, by omega, fnd.nd, w1, w8, ?_, fnd.len, fnd.abc⟩⟩
      have a1 : (ws.length : Int) ≤ 36 / (wide : Int) := by omega
      have a2 : (ws.length : Int) * (wide : Int) ≤ 36 / (wide : Int) * (wide : Int) := Int.mul_le_mul_of_nonneg_right a1 (by omega)
      have a3 : ((wide * ws.length : Nat) : Int) ≤ 36 := by rw [Int.natCast_mul, Int.mul_comm]; omega
      omega
end
end K42

set_option Elab.async false
set_option linter.all false
set_option maxRecDepth 100000
set_option maxHeartbeats 4000000
namespace K42
open PySem PySem.Spec PyProof.Rows L2 He Ov
theorem rg_small {size wide : Nat} (h1 : 1 ≤ size) (h2 : size ≤ 120) (h3 : 1 ≤ wide) (h4 : wide ≤ 8) : Builtin.Range.small 0 size wide = true ∧ rgN 0 size wide ≤ 120 ∧ ∀ i : Nat, i < rgN 0 size wide → (i : Int) * wide < size := by
  have e : Builtin.Range.rangeSize 0 size wide = ((size : Int) - 1) / wide + 1 := by
    unfold Builtin.Range.rangeSize
    rw [if_pos (by omega), if_pos (by omega)]
    congr 2
  have d0 : 0 ≤ ((size : Int) - 1) / wide := Int.ediv_nonneg (by omega) (by omega)
  have d1 : ((size : Int) - 1) / wide ≤ (size : Int) - 1 := Int.ediv_le_self _ (by omega)
  have d2 : ((size : Int) - 1) / wide * wide ≤ (size : Int) - 1 := Int.ediv_mul_le _ (by omega)
  refine ⟨?_, ?_, ?_⟩
  · unfold Builtin.Range.small
    rw [e]
    simp only [Builtin.Range.rangeFitsLong, Bool.and_eq_true, Bool.or_eq_true, decide_eq_true_eq, beq_iff_eq]
    rw [if_pos (by omega : (wide : Int) > 0)]
    simp only [Bool.and_eq_true, decide_eq_true_eq]
    generalize ((size : Int) - 1) / wide = qq at d0 d1
    omega
  · unfold rgN
    rw [e]; omega
  · intro i hi
    unfold rgN at hi
    rw [e] at hi
    have a : (i : Int) ≤ ((size : Int) - 1) / wide := by omega
    have b : (i : Int) * wide ≤ ((size : Int) - 1) / wide * wide := Int.mul_le_mul_of_nonneg_right a (by omega)
    omega

def spMark : Sp := fun vs H Q _ => ∃ (v l : Addr) (ws : List Str) (W : Nat) (size n : Nat) (il : Bool), vs = [.ref v, .ref l, .int size, .bl il] ∧ Vat H v n ∧ n < 2 ^ 18 ∧ H l = some (.lst (ws.map V.str)) ∧ l ≠ v ∧ WordsOk ws W ∧ 1 ≤ size ∧ size ≤ 120 ∧
  ∀ H' z, SameBut v H H' → Vat H' v (n + 500) → z.length = size → Abc z → Q (.str z) H'
/-- the cells: so many signs -/
def CellsAt (H : Hp) (C : Addr) (size : Nat) : Prop := ∃ cs, H C = some (.lst (sgs cs)) ∧ cs.length = size ∧ ∀ c ∈ cs, c ∈ ABC.cps.toList
theorem sgs_set (cs : List Nat) (j c : Nat) : (sgs cs).set j (.str ⟨#[c]⟩) = sgs (cs.set j c) := by
  unfold sgs
  rw [List.map_set]
theorem set_mem {cs : List Nat} {j c : Nat} {P : Nat → Prop} (h : ∀ x ∈ cs, P x) (hc : P c) : ∀ x ∈ cs.set j c, P x := fun x hx => by
  rcases List.mem_or_eq_of_mem_set hx with z | z
  · exact h x z
  · rw [z]; exact hc
theorem ixN_nat {n j : Nat} (h : j < n) : ixN n (j : Int) = some j := by
  unfold ixN
  rw [if_pos (by omega), if_pos (by omega)]; simp
theorem CellsAt.but {H H' : Hp} {C v : Addr} {size : Nat} (h : CellsAt H C size) (s : SameBut v H H') (ne : C ≠ v) : CellsAt H' C size := let ⟨cs, h1, r⟩ := h; ⟨cs, s _ _ ne h1, r⟩
theorem CellsAt.set {H : Hp} {C : Addr} {cs : List Nat} {size j c : Nat} (h2 : cs.length = size) (h3 : ∀ c ∈ cs, c ∈ ABC.cps.toList) (hc : c ∈ ABC.cps.toList) : CellsAt (upd H C (.lst ((sgs cs).set j (.str ⟨#[c]⟩)))) C size :=
  ⟨cs.set j c, by rw [upd_same, sgs_set], by rw [List.length_set]; exact h2, set_mem h3 hc⟩
/-- the v of draws, behind a change elsewhere -/
theorem Vat.put {H : Hp} {v a : Addr} {m : Nat} {o : HO} (h : Vat H v m) (ne : v ≠ a) : Vat (upd H a o) v m := by
  obtain ⟨x, y, z, h1, r⟩ := h
  exact ⟨x, y, z, by rw [upd_ne ne]; exact h1, r⟩
theorem vat_ne {H : Hp} {v p : Addr} {m : Nat} (h : Vat H v m) (np : H p = none) : p ≠ v := fun e => by
  obtain ⟨x, y, z, h1, _⟩ := h
  rw [e, h1] at np
  cases np
/-- one sign of a text -/
theorem sign_at {s : Str} {r : Int} (h0 : 0 ≤ r) (h1 : r < s.length) : ∃ c, atI s.cps.toList r = some c ∧ c ∈ s.cps.toList := by
  obtain ⟨j, rfl⟩ : ∃ j : Nat, r = j := ⟨r.toNat, by omega⟩
  have hl : j < s.cps.size := by show j < s.length; omega
  have hc : s.cps.toList[j]? = some s.cps[j] := by rw [Array.getElem?_toList]; exact Array.getElem?_eq_getElem hl
  exact ⟨s.cps[j], atI_nat hc, List.mem_of_getElem? hc⟩
theorem rep_sgs : ∀ n : Nat, (List.replicate n [V.str "a"]).flatten = sgs (List.replicate n 97)
  | 0 => rfl
  | n + 1 => by
    rw [List.replicate_succ, List.flatten_cons, rep_sgs n, List.replicate_succ]; rfl
/-- if way == 0: cells[_law_sip(vat, size)] = "abz"[_law_sip(vat, 3)] -/
theorem e_if0 {σ : L2.St} {H : Hp} {D : Ends} {v C : Addr} {size m : Nat} {way : Int} (h13 : σ[13]? = some (some (.int way))) (h0 : σ[0]? = some (some (.ref v))) (h5 : σ[5]? = some (some (.ref C))) (h2 : σ[2]? = some (some (.int size))) (hv : Vat H v m) (hm : m < 2 ^ 19) (z1 : 1 ≤ size) (z2 : size ≤ 120)
    (hC : CellsAt H C size) (nC : C ≠ v) (fin : ∀ H', (∀ b o, b ≠ v → b ≠ C → H b = some o → H' b = some o) → Vat H' v (m + 2) → CellsAt H' C size → D.nx σ H') :
    tIfS (tTest (tOp rEq (tVar 13) (tC (.int 0)))) (tAsg (tOp rIxS (tC (.str "abz")) (tCall spSip [] E0 (tCons (tVar 0) (tCons (tC (.int 3)) tNil)))) (gSub (tVar 5) (tCall spSip [] E0 (tCons (tVar 0) (tCons (tVar 2) tNil))) rSetL)) tNext D σ H := by
  refine ⟨_, h13, rfl, _, rfl, ?_⟩
  by_cases c : way = 0
  · rw [decide_eq_true (congrArg V.int c : V.int way = V.int 0)]
    refine iteT ⟨_, h0, v, 3, m, rfl, hv, by omega, by decide, by decide, fun H1 r r0 r1 s1 v1 => ?_⟩
    obtain ⟨c, hc, ha⟩ := sign_at (s := "abz") (r := r) r0 (by show r < 3; omega)
    have ha2 : c ∈ ABC.cps.toList := (by decide : ∀ c ∈ ("abz" : Str).cps.toList, c ∈ ABC.cps.toList) c ha
    refine ⟨"abz", r, c, rfl, rfl, by decide, hc, _, h5, _, h0, _, h2, v, size, m + 1, rfl, v1, by omega, by omega, by omega, fun H2 r2 r20 r21 s2 v2 => ?_⟩
    obtain ⟨cs, hcs, lc, ac⟩ := (hC.but s1 nC).but s2 nC
    refine ⟨C, _, r2, r2.toNat, rfl, rfl, hcs, ?_, ?_⟩
    · have e : r2 = (r2.toNat : Int) := by omega
      rw [e]
      refine ixN_nat ?_
      unfold sgs
      rw [List.length_map]
      omega
    · exact fin _ (fun b o nv nc hb => by rw [upd_ne nc]; exact s2 _ _ nv (s1 _ _ nv hb)) (v2.put nC.symm) (.set lc ac ha2)
  · rw [decide_eq_false (fun e : V.int way = V.int 0 => c (by injection e))]
    exact iteF (fin H (fun _ _ _ _ h => h) (hv.mono (by omega)) hC)
/-- max(0, min(spot, size - wide)) if is_line else spot -/
theorem e_begin {σ : L2.St} {H : Hp} {Q : VK} {il : Bool} {sp : Int} {size W : Nat} (h3 : σ[3]? = some (some (.bl il))) (h8 : σ[8]? = some (some (.int sp))) (h2 : σ[2]? = some (some (.int size))) (h4 : σ[4]? = some (some (.int W))) (q : ∀ b : Int, Q (.int b) H) :
    tIf (tB (tVar 3)) (tCB (fun xs H Q => ∃ i j, xs = [V.int i, V.int j] ∧ Q (V.int (if j > i then j else i)) H) (tCons (tC (.int 0)) (tCons (tCB (fun xs H Q => ∃ i j, xs = [V.int i, V.int j] ∧ Q (V.int (if j < i then j else i)) H) (tCons (tVar 8) (tCons (tOp (rI0 fun i j => .int (i - j)) (tVar 2) (tVar 4)) tNil))) tNil))) (tVar 8) σ H Q := by
  refine ⟨_, h3, il, rfl, ?_⟩
  cases il with
  | true => exact iteT ⟨_, h8, _, h2, _, h4, _, _, rfl, rfl, _, _, rfl, _, _, rfl, q _⟩
  | false => exact iteF ⟨_, h8, q _⟩
section
variable {P : Program} {w : World} {K : PySem.W.Frag} {mg : Str → Option Value} {base : Heap}
abbrev N_mk : List Str := ["vat", "words", "size", "is_line", "wide", "cells", "spots", "turn", "spot", "word", "begin", "k", "letter", "way", "cell"]
theorem sc_mk : FnScope N_mk ["vat", "words", "size", "is_line"] (defScope s__law_mark) := ⟨rfl, rfl, rfl, by decide +kernel, rfl, by decide +kernel, by decide +kernel⟩
theorem b_mk : BindsX "_law_mark" "_law_mark" s__law_mark ["vat", "words", "size", "is_line"] := fun _ _ _ _ _ _ us hl => match us, hl with | [_, _, _, _], _ => rfl
theorem ok_mk (T : Txt K mg) : CallC P w K mg base CX0 2 "_law_mark" ["vat", "words", "size", "is_line"] spMark := by
  refine ⟨kept_of T.f__law_mark sc_mk b_mk (fun vs H Q E h => ?_) (fun cdv A outer s H vs Q E hr h => ?_), T.g__law_mark, keep T.f__law_mark⟩
  · obtain ⟨v, l, ws, W, size, n, il, rfl, _⟩ := h
    rfl
  · obtain ⟨v, l, ws, W, size, n, il, rfl, hv, hn, hl, lv, ok, z1, z2, q⟩ := h
    refine ⟨_, pss_cons (ps_par (i := 4) (j := 5) (by rfl) sc_mk.nd rfl rfl (by decide) rfl rfl (pa_cons (pe_callB call_len_str (by rfl) T.z_len PySem.boot_len (pa_cons (pe_ix ix_list (pv 1) pe_int (fun _ _ => rfl)) pa_nil)) (pa_cons (pe_op op_rep (pe_lst (pa_cons pe_str pa_nil)) (pv 2)) pa_nil)) (by rfl))
      (pss_cons (ps_set (i := 6) sc_mk.nd rfl (.inl rfl) (pe_listRg3 rfl (by rfl) T.z_list (by rfl) T.z_range (pa_cons pe_int (pa_cons (pv 2) (pa_cons (pv 4) pa_nil)))))
      (pss_cons (ps_for PassesOwn.never rfl (pi_range1 (by rfl) T.z_range (pa_cons (pe_callC (ok_sip T) hr (by rfl) pass0 (pa_cons (pv 0) (pa_cons (pe_callB (call_min2 rfl) (by rfl) T.z_min (by decide +kernel) (pa_cons pe_int (pa_cons (pe_op op_mul pe_int (pv 2)) pa_nil))) pa_nil))) pa_nil)) (pg_name (i := 7) sc_mk.nd rfl (.inl rfl))
        (pss_one (ps_expr (pe_bm PySem.F.plainAttrs_list PySem.F.slot_list_append PySem.F.type_list_append mt_append (pv 6) (pa_cons (pe_op op_add (pe_op op_sub (pe_callC (ok_sip T) hr (by rfl) pass0 (pa_cons (pv 0) (pa_cons (pe_op op_sub (pe_op op_add (pv 2) (pv 4)) pe_int) pa_nil))) (pv 4)) pe_int) pa_nil)))))
      (pss_cons (ps_for PassesOwn.never rfl (pi_list (pv 6)) (pg_name (i := 8) sc_mk.nd rfl (.inl rfl))
        (pss_cons (ps_set (i := 9) sc_mk.nd rfl (.inl rfl) (pe_ix ix_list (pv 1) (pe_callC (ok_sip T) hr (by rfl) pass0 (pa_cons (pv 0) (pa_cons (pe_callB call_len_seq (by rfl) T.z_len PySem.boot_len (pa_cons (pv 1) pa_nil)) pa_nil))) (fun _ _ => rfl)))
        (pss_cons (ps_set (i := 10) sc_mk.nd rfl (.inl rfl) (pe_ifExp (pt_val (pv 3)) (pe_callB (call_max2 rfl) (by rfl) T.z_max (by decide +kernel) (pa_cons pe_int (pa_cons (pe_callB (call_min2 rfl) (by rfl) T.z_min (by decide +kernel) (pa_cons (pv 8) (pa_cons (pe_op op_sub (pv 2) (pv 4)) pa_nil))) pa_nil))) (pv 8)))
        (pss_one (ps_for PassesOwn.never rfl (pi_enumS (by rfl) T.z_enumerate (pa_cons (pv 9) pa_nil)) (pg_tup rfl (pgs_cons (pg_name (i := 11) sc_mk.nd rfl (.inl rfl)) (pgs_cons (pg_name (i := 12) sc_mk.nd rfl (.inl rfl)) pgs_nil)))
          (pss_one (ps_if (pt_chain op_le op_lt pe_int (pe_op op_add (pv 10) (pv 11)) (pv 2)) (pss_one (ps_asg (pv 12) (pg_sub (pv 5) (pe_op op_add (pv 10) (pv 11)) set_list))) pss_nil)))))))
      (pss_cons (ps_set (i := 13) sc_mk.nd rfl (.inl rfl) (pe_callC (ok_sip T) hr (by rfl) pass0 (pa_cons (pv 0) (pa_cons pe_int pa_nil))))
      (pss_cons (ps_if (pt_cmpR op_eq (pv 13) pe_int (nomark _)) (pss_one (ps_asg (pe_ix ix_str pe_str (pe_callC (ok_sip T) hr (by rfl) pass0 (pa_cons (pv 0) (pa_cons pe_int pa_nil))) (fun _ _ => rfl)) (pg_sub (pv 5) (pe_callC (ok_sip T) hr (by rfl) pass0 (pa_cons (pv 0) (pa_cons (pv 2) pa_nil))) set_list))) pss_nil)
      (pss_cons (ps_if (pt_cmpR op_eq (pv 13) pe_int (nomark _)) (pss_one (ps_setLc (i := 5) (own := [("cell", 14)]) rfl sc_mk.nd rfl rfl (sw_true rfl rfl rfl (by decide +kernel)) (pi_list (pv 5)) (blkOk_by (N := N_mk) (sc := defScope s__law_mark) (by decide +kernel)) (fun _ _ _ _ _ => pg_name (i := 14) sc_mk.nd rfl (.inl rfl)) (fun _ _ _ _ _ => pts_nil)
          (fun _ _ _ _ _ => pe_ix ix_str pe_str (pe_callC (ok_sip T) hr (by rfl) pass0 (pa_cons (pv 0) (pa_cons pe_int pa_nil))) (fun _ _ => rfl)))) pss_nil)
      (pss_one (ps_ret (pe_join pe_str (pv 5)))))))))), ?_⟩
    have n1 := ok.ne
    have n6 := ok.few
    have w1 := ok.w1
    have w8 := ok.w8
    obtain ⟨z0, hz0⟩ : ∃ z, ws[0]? = some z := ⟨_, List.getElem?_eq_getElem n1⟩
    have lz0 := ok.len z0 (List.mem_of_getElem? hz0)
    refine ⟨_, rfl, l, _, _, _, rfl, rfl, SqL.of hl, atI_nat (j := 0) (v := .str z0) (by rw [List.getElem?_map, hz0]; rfl), _, rfl, len_le (by omega), by show 1 ≤ sizeLine; decide, fun l0 nl0 => ?_⟩
    refine ⟨_, rfl, l0, _, _, rfl, rfl, upd_same, by omega, by omega, by show 1 * (size : Int).toNat ≤ sizeLine; exact Nat.le_of_lt (small1000 (by omega)), fun C nC => ⟨_, _, rfl, ?_⟩⟩
    rw [lz0]
    have s1 := same_upd (o := .lst [V.str "a"]) nl0
    have s2 := same_upd (o := .lst (List.replicate (size : Int).toNat [V.str "a"]).flatten) nC
    have hC2 : CellsAt (upd (upd H l0 (.lst [V.str "a"])) C (.lst (List.replicate (size : Int).toNat [V.str "a"]).flatten)) C size := by
      refine ⟨List.replicate size 97, ?_, List.length_replicate, fun c hc => ?_⟩
      · rw [upd_same]
        rw [Int.toNat_natCast, rep_sgs]
      · rw [(List.mem_replicate.mp hc).2]; decide
    have vC : C ≠ v := vat_ne (hv.same s1) nC
    have nCH : H C = none := s1.free nC
    have s02 := s1.trans s2
    have v2 := hv.same s02
    clear s1 s2
    generalize upd (upd H l0 (.lst [V.str "a"])) C (.lst (List.replicate (size : Int).toNat [V.str "a"]).flatten) = H2 at hC2 s02 v2
    obtain ⟨g1, g2, g3⟩ := rg_small z1 z2 w1 w8
    refine ⟨_, rfl, _, rfl, _, _, _, rfl, by omega, by omega, g1, Nat.le_trans g2 (by decide), fun S nS => ?_⟩
    have s3 := same_upd (o := .lst (rgV3 0 size W)) nS
    have hS3 : ∃ ss : List Int, upd H2 S (.lst (rgV3 0 size W)) S = some (.lst (ss.map V.int)) ∧ ss.length ≤ 120 := by
      refine ⟨(List.range (rgN 0 size W)).map fun i => 0 + (i : Nat) * (W : Int), ?_, ?_⟩
      · rw [upd_same, List.map_map]; rfl
      · rw [List.length_map, List.length_range]; exact g2
    have vS : S ≠ v := vat_ne v2 nS
    have CS : C ≠ S := by
      obtain ⟨cs, h1, _⟩ := hC2
      exact ne_of_none h1 nS
    have nSH : H S = none := s02.free nS
    have s03 := s02.trans s3
    have v3 := v2.same s3
    have hC3 := hC2.but (Ov.Same.but s3) vC
    clear s3
    generalize upd H2 S (.lst (rgV3 0 size W)) = H3 at hS3 s03 v3 hC3
    obtain ⟨ss, hS3, lss⟩ := hS3
    refine ⟨_, rfl, _, rfl, _, _, rfl, rfl, .inl ⟨by decide, by decide⟩, _, _, rfl, ?_⟩
    generalize hmo : (if (2 : Int) * (size : Int) < 60 then (2 : Int) * (size : Int) else 60) = mo
    have m1 : 1 ≤ mo ∧ mo ≤ 60 := by rw [← hmo]; split <;> omega
    refine ⟨v, mo, n, rfl, v3, by omega, m1.1, by omega, fun H4 r r0 r1 s4 v4 => ⟨_, rfl, by omega, by omega, ?_⟩⟩
    have hS4 := s4 _ _ vS hS3
    have hC4 := hC3.but s4 vC
    have s04 : SameBut v H H4 := (Ov.Same.but s03).trans s4
    refine for_range (lo := 0) (n := r.toNat) (fun i σ H' => (∃ tv, σ = [some (.ref v), some (.ref l), some (.int size), some (.bl il), some (.int W), some (.ref C), some (.ref S), tv, none, none, none, none, none, none, none]) ∧ SameBut v H H' ∧ Vat H' v (n + 1 + i) ∧ CellsAt H' C size ∧ ∃ ss : List Int, H' S = some (.lst (ss.map V.int)) ∧ ss.length ≤ 120 + i) ⟨⟨_, rfl⟩, s04, v4, hC4, ss, hS4, lss⟩ ?_ ?_
    · rintro i σ H5 hi ⟨⟨tv, rfl⟩, s5, v5, hC5, ss, hS5, lss⟩
      refine ⟨_, rfl, .inl ⟨rfl, _, SqL.of hS5⟩, _, rfl, _, rfl, _, rfl, _, _, rfl, rfl, _, _, rfl, rfl, v, _, n + 1 + i, rfl, v5, by omega, by omega, by omega, fun H6 r2 r20 r21 s6 v6 => ?_⟩
      have hS6 := s6 _ _ vS hS5
      refine ⟨_, rfl, _, _, rfl, rfl, _, _, rfl, rfl, S, _, _, rfl, rfl, hS6, by rw [List.length_map]; exact small1000 (by omega), ⟨_, rfl⟩, SameBut.put (s5.trans s6) nSH, v6.put vS.symm, (hC5.but s6 vC).but .upd CS, ss ++ [r2 - (W : Int) + 1], ?_, ?_⟩
      · rw [upd_same, List.map_append]; rfl
      · rw [List.length_append, List.length_singleton]; omega
    · rintro σ H5 ⟨⟨tv, rfl⟩, s5, v5, hC5, ss, hS5, lss⟩
      refine ⟨_, rfl, S, rfl, ⟨_, SqL.of hS5⟩, ?_⟩
      have ls200 : ss.length ≤ 180 := by omega
      have v5' : Vat H5 v (n + 61) := v5.mono (by omega)
      refine for_list (K := K) (a := S) (xs := ss.map V.int) (fun i σ H' => (∃ v7 v8 v9 v10 v11 v12, σ = [some (.ref v), some (.ref l), some (.int size), some (.bl il), some (.int W), some (.ref C), some (.ref S), v7, v8, v9, v10, v11, v12, none, none]) ∧ SameBut v H H' ∧ Vat H' v (n + 61 + i) ∧ CellsAt H' C size ∧ H' S = some (.lst (ss.map V.int))) ⟨⟨_, _, _, _, _, _, rfl⟩, s5, v5', hC5, hS5⟩ (fun i σ H' _ h => SqL.of h.2.2.2.2) ?_ ?_
      · rintro i x σ H6 hx ⟨⟨v7, v8, v9, v10, v11, v12, rfl⟩, s6, v6, hC6, hS6⟩
        rw [List.getElem?_map] at hx
        obtain ⟨sp, hsp, rfl⟩ := Option.map_eq_some_iff.mp hx
        have il2 : i < ss.length := (List.getElem?_eq_some_iff.mp hsp).1
        have hl6 : H6 l = some (.lst (ws.map V.str)) := s6 _ _ lv hl
        refine ⟨_, rfl, _, rfl, _, rfl, l, _, rfl, .inl (SqL.of hl6), v, _, n + 61 + i, rfl, v6, by omega, by rw [List.length_map]; omega, by rw [List.length_map]; omega, fun H7 r2 r20 r21 s7 v7' => ?_⟩
        rw [List.length_map] at r21
        have hl7 := s7 _ _ lv hl6
        obtain ⟨wd, hwd⟩ : ∃ wd, ws[r2.toNat]? = some wd := ⟨_, List.getElem?_eq_getElem (by omega)⟩
        have awd := ok.abc wd (List.mem_of_getElem? hwd)
        have lwd := ok.len wd (List.mem_of_getElem? hwd)
        refine ⟨l, _, r2, .str wd, rfl, rfl, SqL.of hl7, by
          have e : r2 = (r2.toNat : Int) := by omega
          rw [e]
          exact atI_nat (by rw [List.getElem?_map, hwd]; rfl), ?_⟩
        refine e_begin (il := il) (sp := sp) (size := size) (W := W) rfl rfl rfl rfl fun b => ?_
        refine ⟨_, rfl, wd, rfl, ?_⟩
        have hC7 := hC6.but s7 vC
        have hS7 := s7 _ _ vS hS6
        have s07 := s6.trans s7
        refine for_it walk_enumS (fun k σ H' => (∃ v11 v12, σ = [some (.ref v), some (.ref l), some (.int size), some (.bl il), some (.int W), some (.ref C), some (.ref S), v7, some (.int sp), some (.str wd), some (.int b), v11, v12, none, none]) ∧ SameBut v H H' ∧ Vat H' v (n + 61 + i + 1) ∧ CellsAt H' C size ∧ H' S = some (.lst (ss.map V.int))) ⟨⟨_, _, rfl⟩, s07, v7', hC7, hS7⟩ (fun _ _ _ _ _ => trivial) ?_ ?_
        · rintro k x σ H8 H9 hk ⟨⟨v11, v12, rfl⟩, s8, v8', hC8, hS8⟩ ⟨T0, c, rfl, nT, hc, rfl⟩
          have st := same_upd (o := .tup [V.int (k : Nat), V.str ⟨#[c]⟩]) nT
          have hT := upd_same (H := H8) (a := T0) (o := .tup [V.int (k : Nat), V.str ⟨#[c]⟩])
          have v9' := v8'.same st
          have hC9 := hC8.but (Ov.Same.but st) vC
          have hS9 := st _ _ hS8
          have s9 := s8.trans (Ov.Same.but st)
          clear st
          generalize upd H8 T0 (.tup [V.int (k : Nat), V.str ⟨#[c]⟩]) = H9 at hT v9' hC9 hS9 s9
          have ac : c ∈ ABC.cps.toList := awd c (by rw [← Array.getElem?_toList] at hc; exact List.mem_of_getElem? hc)
          refine ⟨T0, _, rfl, SqT.of hT, rfl, _, _, rfl, _, _, rfl, rfl, ?_⟩
          refine ⟨_, rfl, _, rfl, _, _, rfl, rfl, _, _, rfl, rfl, _, rfl, ?_⟩
          by_cases c1 : (0 : Int) ≤ b + (k : Int)
          · rw [decide_eq_true c1]
            refine iteT ⟨_, rfl, _, _, rfl, rfl, _, rfl, ?_⟩
            by_cases c2 : b + (k : Int) < (size : Int)
            · rw [decide_eq_true c2]
              obtain ⟨cs, h1, h2, h3⟩ := hC9
              refine iteT ⟨_, rfl, _, rfl, _, rfl, _, rfl, _, _, rfl, rfl, C, _, _, (b + (k : Int)).toNat, rfl, rfl, h1, ?_, ⟨_, _, rfl⟩, SameBut.put s9 nCH, v9'.put vC.symm, .set h2 h3 ac, by rw [upd_ne CS.symm]; exact hS9⟩
              have e : b + (k : Int) = ((b + (k : Int)).toNat : Int) := by omega
              rw [e]
              refine ixN_nat ?_
              unfold sgs
              rw [List.length_map]
              omega
            · rw [decide_eq_false c2]
              exact iteF ⟨⟨_, _, rfl⟩, s9, v9', hC9, hS9⟩
          · rw [decide_eq_false c1]
            exact iteF ⟨false, rfl, iteF ⟨⟨_, _, rfl⟩, s9, v9', hC9, hS9⟩⟩
        · rintro σ H8 ⟨⟨v11, v12, rfl⟩, s8, v8', hC8, hS8⟩
          exact ⟨⟨_, _, _, _, _, _, rfl⟩, s8, v8', hC8, hS8⟩
      · rintro σ H6 ⟨⟨v7, v8, v9, v10, v11, v12, rfl⟩, s6, v6, hC6, hS6⟩
        have v6' : Vat H6 v (n + 241) := v6.mono (by rw [List.length_map]; omega)
        refine ⟨_, rfl, v, 6, n + 241, rfl, v6', by omega, by decide, by decide, fun H7 way w0 w6 s7 v7' => ?_⟩
        have hC7 := hC6.but s7 vC
        have s07 := s6.trans s7
        refine e_if0 (v := v) (C := C) (size := size) (m := n + 242) (way := way) rfl rfl rfl rfl v7' (by omega) z1 z2 hC7 vC fun H8 st v8' hC8 => ?_
        have s08 : SameBut v H H8 := fun b o nb hb => st b o nb (ne_of_none hb nCH) (s07 b o nb hb)
        have last : ∀ (H9 : Hp) (C' : Addr), CellsAt H9 C' size → SameBut v H H9 → Vat H9 v (n + 500) → ∃ a p, ∃ ys : List Str, V.str Str.empty = .str a ∧ [V.ref C'] = [.ref p] ∧ (SqL K H9 p (ys.map V.str) ∨ SqT K H9 p (ys.map V.str)) ∧
            (ys.map (·.length)).sum + ys.length * a.length ≤ 16777216 ∧ Q (.str (Txt.join a ys)) H9 := fun H9 C' hC9 s9 v9' => by
          obtain ⟨cs, h1, h2, h3⟩ := hC9
          refine ⟨Str.empty, C', cs.map fun c => ⟨#[c]⟩, rfl, rfl, .inl (by rw [← sgs_eq]; exact SqL.of h1), by rw [sgs_sum]; omega, ?_⟩
          refine q H9 (ofCs cs) s9 v9' (by rw [ofCs_len, h2]) ?_
          unfold Abc
          rw [ofCs_cps]
          exact h3
        refine ⟨_, rfl, rfl, _, rfl, ?_⟩
        by_cases c1 : way = 1
        · rw [decide_eq_true (congrArg V.int c1 : V.int way = V.int 1)]
          obtain ⟨cs8, h81, h82, h83⟩ := id hC8
          refine iteT ⟨_, rfl, C, rfl, ⟨_, SqL.of h81⟩, fun D nD => ?_⟩
          have vD : D ≠ v := vat_ne v8' nD
          refine lc_list (K := K) (a := C) (xs := sgs cs8) (fun i H' => SameBut v H8 H' ∧ Vat H' v (n + 244 + i) ∧ ∃ cs, H' D = some (.lst (sgs cs)) ∧ cs.length = i ∧ ∀ c ∈ cs, c ∈ ABC.cps.toList) ⟨Ov.Same.but (same_upd nD), v8'.put vD.symm, [], upd_same, rfl, fun c h => absurd h (by simp)⟩ (fun _ _ _ h => SqL.of (h.1 _ _ vC h81)) ?_ ?_
          · rintro i x H9 hx ⟨s9, v9', cs, hD, lc, ac⟩
            have ix : i < cs8.length := by
              have h := (List.getElem?_eq_some_iff.mp hx).1
              unfold sgs at h
              rw [List.length_map] at h
              exact h
            refine ⟨rfl, lcY ⟨_, rfl, v, 3, n + 244 + i, rfl, v9', by omega, by decide, by decide, fun H10 r3 r30 r31 s10 v10' => ?_⟩⟩
            obtain ⟨c, hc, ha⟩ := sign_at (s := "abc") (r := r3) r30 (by show r3 < 3; omega)
            have ha2 : c ∈ ABC.cps.toList := (by decide : ∀ c ∈ ("abc" : Str).cps.toList, c ∈ ABC.cps.toList) c ha
            refine ⟨"abc", r3, c, rfl, rfl, by decide, hc, _, s10 _ _ vD hD, ?_, SameBut.put (s9.trans s10) nD, v10'.put vD.symm, cs ++ [c], ?_, ?_, ?_⟩
            · unfold sgs
              rw [List.length_map]
              exact small1000 (by omega)
            · rw [upd_same]
              unfold sgs
              rw [List.map_append]; rfl
            · rw [List.length_append, lc]; rfl
            · intro y hy
              rcases List.mem_append.mp hy with z | z
              · exact ac y z
              · rw [List.mem_singleton.mp z]; exact ha2
          · rintro H9 ⟨s9, v9', cs, hD, lc, ac⟩
            have ls : (sgs cs8).length = size := by unfold sgs; rw [List.length_map]; exact h82
            rw [ls] at lc v9'
            exact ⟨⟨_, rfl⟩, _, rfl, last H9 D ⟨cs, hD, lc, ac⟩ (s08.trans s9) (v9'.mono (by omega))⟩
        · rw [decide_eq_false (fun e : V.int way = V.int 1 => c1 (by injection e))]
          exact iteF ⟨⟨_, rfl⟩, _, rfl, last H8 C hC8 s08 (v8'.mono (by omega))⟩
end
end K42

set_option Elab.async false
set_option linter.all false
set_option maxRecDepth 100000
set_option maxHeartbeats 4000000
namespace K42
open PySem PySem.Spec PyProof.Rows L2 He Ov
/-! ### a table as it is shown -/
/-- data that repr takes: not deep, not heavy -/
structure Fine (d : PyData) (dep wt : Nat) : Prop where
  lay : d.canLay0 = true
  dep : d.depth ≤ dep
  wt : d.weight ≤ wt
  short : d.intsShort 13 = true
  sh : d.showable = true
  nd : d.hasDict = false
structure FineAll (ds : List PyData) (dep wt : Nat) : Prop where
  lay : PyData.canLayAll0 ds = true
  dep : PyData.depthAll ds ≤ dep
  wt : PyData.weightAll ds ≤ wt
  short : PyData.intsShortAll 13 ds = true
  sh : PyData.showableAll ds = true
  nd : PyData.hasDictAll ds = false
theorem fine_all {dep wt : Nat} : ∀ {ds : List PyData}, (∀ d ∈ ds, Fine d dep wt) → FineAll ds dep (ds.length * (wt + 1))
  | [], _ => ⟨rfl, Nat.zero_le _, Nat.zero_le _, rfl, rfl, rfl⟩
  | d :: r, h => by
    have f := h d List.mem_cons_self
    have g := fine_all fun e he => h e (List.mem_cons_of_mem _ he)
    refine ⟨?_, ?_, ?_, ?_, ?_, ?_⟩
    · show (PyData.canLay0 d && PyData.canLayAll0 r) = true
      rw [f.lay, g.lay]; rfl
    · exact Nat.max_le.mpr ⟨f.dep, g.dep⟩
    · show PyData.weight d + 1 + PyData.weightAll r ≤ (r.length + 1) * (wt + 1)
      have a := f.wt
      have b := g.wt
      rw [Nat.add_mul]
      omega
    · show (PyData.intsShort 13 d && PyData.intsShortAll 13 r) = true
      rw [f.short, g.short]; rfl
    · show (PyData.showable d && PyData.showableAll r) = true
      rw [f.sh, g.sh]; rfl
    · show (PyData.hasDict d || PyData.hasDictAll r) = false
      rw [f.nd, g.nd]; rfl
theorem FineAll.list {ds : List PyData} {dep wt : Nat} (h : FineAll ds dep wt) : Fine (.list ds) (dep + 1) wt := ⟨h.lay, Nat.succ_le_succ h.dep, h.wt, h.short, h.sh, h.nd⟩
theorem FineAll.tuple {ds : List PyData} {dep wt : Nat} (h : FineAll ds dep wt) : Fine (.tuple ds) (dep + 1) wt := ⟨h.lay, Nat.succ_le_succ h.dep, h.wt, h.short, h.sh, h.nd⟩
theorem Fine.mono {d : PyData} {a b a' b' : Nat} (h : Fine d a b) (h1 : a ≤ a') (h2 : b ≤ b') : Fine d a' b' := ⟨h.lay, Nat.le_trans h.dep h1, Nat.le_trans h.wt h2, h.short, h.sh, h.nd⟩
theorem int_facts : ∀ n : Fin 200, (PyData.shown (.int (n.val : Int))).length ≤ 13 ∧ PyData.weight (.int (n.val : Int)) ≤ 8 ∧ PyData.showable (.int (n.val : Int)) = true := by decide +kernel
theorem fine_int {i : Int} (h0 : 0 ≤ i) (h1 : i < 200) : Fine (.int i) 0 8 := by
  obtain ⟨j, rfl⟩ : ∃ j : Nat, i = j := ⟨i.toNat, by omega⟩
  obtain ⟨a, b, c⟩ := int_facts ⟨j, by omega⟩
  exact ⟨rfl, Nat.le_refl _, b, decide_eq_true a, c, rfl⟩
theorem Fine.len {d : PyData} {dep wt : Nat} (h : Fine d dep wt) (h1 : dep ≤ 60) (h2 : wt ≤ 2 ^ 20) : d.shown.length ≤ sizeLine := by
  have l : PyData.layable0 d = true := by
    unfold PyData.layable0
    rw [h.lay, decide_eq_true (Nat.le_trans h.dep (by omega)), decide_eq_true (Nat.le_trans h.wt h2)]; rfl
  exact Nat.le_trans (shown_le13 l h.short) (by decide)
def entD (e : IK × Int) : PyData := .tuple [.int e.1.1, .int e.1.2, .int e.2]
def rowD (m : Bs) : PyData := .list (m.map entD)
def tabD (ms : List Bs) : PyData := .list (ms.map rowD)
/-- numbers of a table -/
def NumOk (m : Bs) : Prop := m.length ≤ 36 ∧ ∀ e ∈ m, small e.1 ∧ 0 ≤ e.2 ∧ e.2 < 200
theorem fine_ent {e : IK × Int} (h : small e.1 ∧ 0 ≤ e.2 ∧ e.2 < 200) : Fine (entD e) 1 27 := by
  obtain ⟨⟨a1, a2, a3, a4⟩, b1, b2⟩ := h
  refine (FineAll.tuple (fine_all (dep := 0) (wt := 8) (ds := [.int e.1.1, .int e.1.2, .int e.2]) fun d hd => ?_)).mono (Nat.le_refl _) (by show 3 * 9 ≤ 27; decide)
  simp only [List.mem_cons, List.not_mem_nil, or_false] at hd
  rcases hd with rfl | rfl | rfl
  · exact fine_int a1 (by omega)
  · exact fine_int a3 (by omega)
  · exact fine_int b1 b2
theorem fine_row {m : Bs} (h : NumOk m) : Fine (rowD m) 2 1008 := by
  refine (FineAll.list (fine_all (dep := 1) (wt := 27) (ds := m.map entD) fun d hd => ?_)).mono (Nat.le_refl _) ?_
  · obtain ⟨e, he, rfl⟩ := List.mem_map.mp hd
    exact fine_ent (h.2 e he)
  · rw [List.length_map]
    have := h.1
    omega
theorem fine_tab {ms : List Bs} (h : ∀ m ∈ ms, NumOk m) (hl : ms.length ≤ 120) : Fine (tabD ms) 3 121080 := by
  refine (FineAll.list (fine_all (dep := 2) (wt := 1008) (ds := ms.map rowD) fun d hd => ?_)).mono (Nat.le_refl _) ?_
  · obtain ⟨m, hm, rfl⟩ := List.mem_map.mp hd
    exact fine_row (h m hm)
  · rw [List.length_map]
    omega
/-! ### the numbers stay small -/
theorem stepG_mem {f : IK → Option Int} {ks : List IK} {e : IK × Int} (h : e ∈ stepG f ks) : e.1 ∈ ks ∧ f e.1 = some e.2 := by
  unfold stepG at h
  obtain ⟨k, hk, he⟩ := List.mem_filterMap.mp h
  cases hf : f k with
  | none => rw [hf] at he; cases he
  | some b =>
    rw [hf] at he
    have he : (k, b) = e := Option.some.inj he
    subst he
    exact ⟨hk, hf⟩
theorem prev_num (il : Bool) (W : Nat) (ws : List Str) (z : Str) : ∀ i, ∀ e ∈ prev il W ws z i, 0 ≤ e.2 ∧ e.2 ≤ (i : Int) + 1
  | 0, e, h => by
    obtain ⟨_, h2⟩ := stepG_mem (show e ∈ stepG _ _ from h)
    obtain ⟨h3, _⟩ := minO_some h2
    unfold some2 at h3
    rcases List.mem_append.mp h3 with q | q
    · split at q
      · rw [List.mem_singleton.mp q]; decide
      · cases q
    · simp at q
  | i + 1, e, h => by
    obtain ⟨_, h2⟩ := stepG_mem (show e ∈ stepG _ _ from h)
    obtain ⟨h3, _⟩ := minO_some h2
    unfold some2 at h3
    rcases List.mem_append.mp h3 with q | q
    · rw [if_neg (by omega)] at q
      cases q
    · obtain ⟨e', he', q⟩ := List.mem_flatMap.mp q
      obtain ⟨a, b⟩ := prev_num il W ws z i e' he'
      unfold one2 at q
      rcases List.mem_append.mp q with q | q
      · split at q
        · rw [List.mem_singleton.mp q]; omega
        · cases q
      · split at q
        · rw [List.mem_singleton.mp q]; omega
        · cases q
theorem tabs_num {ws : List Str} {W : Nat} (ok : WordsOk ws W) (il : Bool) (z : Str) {n : Nat} (hn : n ≤ 120) : ∀ m ∈ tabs il W ws z n, NumOk m := fun m hm => by
  unfold tabs at hm
  obtain ⟨i, hi, rfl⟩ := List.mem_map.mp hm
  have hi := List.mem_range.mp hi
  have okp := prev_ok ok il z i
  exact ⟨okp.len, fun e he => ⟨okp.sm e he, (prev_num il W ws z i e he).1, by have := (prev_num il W ws z i e he).2; omega⟩⟩
theorem tabs_len (il : Bool) (W : Nat) (ws : List Str) (z : Str) (n : Nat) : (tabs il W ws z n).length = n := by unfold tabs; rw [List.length_map, List.length_range]
/-! ### what stands at a table's place is its data -/
theorem dp_row {K : PySem.W.Frag} {H : Hp} : ∀ {m : Bs} {qs : List Addr}, Paired (fun (e : IK × Int) q => H q = some (.tup [.int e.1.1, .int e.1.2, .int e.2])) m qs → DpAll K H (qs.map V.ref) (m.map entD)
  | _, _, .nil => .nil
  | _, _, .cons r t => .cons (.tup (SqT.of r) (dp_ints [_, _, _])) (dp_row t)
theorem dp_rows {K : PySem.W.Frag} {H : Hp} {p : Addr} : ∀ {ms : List Bs} {rs : List Addr}, Paired (fun m r => RowAt H r m ∧ r ≠ p) ms rs → DpAll K H (rs.map V.ref) (ms.map rowD)
  | _, _, .nil => .nil
  | _, _, .cons r t => by
    obtain ⟨⟨qs, h1, h2⟩, _⟩ := r
    exact .cons (.lst (SqL.of h1) (dp_row h2)) (dp_rows t)
theorem dp_tab {K : PySem.W.Frag} {H : Hp} {p : Addr} {ms : List Bs} (h : TabAt H p ms) : Dp K H (.ref p) (tabD ms) := by
  obtain ⟨rs, h1, h2⟩ := h
  exact .lst (SqL.of h1) (dp_rows h2)
end K42

set_option Elab.async false
set_option linter.all false
set_option maxRecDepth 100000
set_option maxHeartbeats 4000000
namespace K42
open PySem PySem.Spec PyProof.Rows L2 He Ov
def spMade (K : PySem.W.Frag) : Sp := fun vs H Q _ => ∃ (a : Addr) (ws : List Str) (W : Nat) (il : Bool), vs = [.ref a, .bl il] ∧ H a = some (.lst (ws.map V.str)) ∧ WordsOk ws W ∧ ∀ H' p, Same H H' → BandAt K H' p ws il → Q (.ref p) H'
def spListed (K : PySem.W.Frag) : Sp := fun vs H Q _ => ∃ (p : Addr) (ws : List Str) (W : Nat) (ms : List Bs), vs = [.ref p] ∧ DictsAt H p ms ∧ (∀ m ∈ ms, BsOk ws W m) ∧ ms.length ≤ 120 ∧ ∀ H' q, Same H H' → TabAt H' q ms → Q (.ref q) H'
section
variable {P : Program} {w : World} {K : PySem.W.Frag} {mg : Str → Option Value} {base : Heap}
theorem rawC {f : Addr} {ps : List Str} {sp : Sp} {k : Nat} (h : Kept P w K mg base CX0 k f ps sp) : FnR P w K mg base CX0 k f (fun vs H Q E => sp (vs ++ []) H Q E) := by
  obtain ⟨fd, F, b⟩ := h
  exact F.raw b .nil
abbrev N_md : List Str := ["words", "is_line"]
theorem sc_md : FnScope N_md ["words", "is_line"] (defScope s__law_made) := ⟨rfl, rfl, rfl, by decide +kernel, rfl, by decide +kernel, by decide +kernel⟩
theorem b_md : BindsX "_law_made" "_law_made" s__law_made ["words", "is_line"] := fun _ _ _ _ _ _ us hl => match us, hl with | [_, _], _ => rfl
theorem ok_md (T : Txt K mg) : CallC P w K mg base CX0 6 "_law_made" ["words", "is_line"] (spMade K) := by
  refine ⟨kept_of T.f__law_made sc_md b_md (fun vs H Q E h => ?_) (fun cdv A outer s H vs Q E hr h => ?_), T.g__law_made, keep T.f__law_made⟩
  · obtain ⟨a, ws, W, il, rfl, _⟩ := h
    rfl
  · obtain ⟨a, ws, W, il, rfl, ha, ok, q⟩ := h
    refine ⟨_, pss_one (ps_ret (ClX.pe_cmeth (pe_glob (v := .ref (ga K "Band")) (by rfl) T.g_Band rfl) T.r_Band T.cm_Band_named (rawC (ok_nm T)) hr pass0
      (pa_cons (pe_ix ix_list (pe_lst (pa_cons pe_str (pa_cons pe_str pa_nil))) (pe_callTy call_int1 (by rfl) T.z_int (by decide +kernel) (pa_cons (pv 1) pa_nil)) (fun _ _ => rfl))
      (pa_cons (ClX.pe_cmeth (pe_glob (v := .ref (ga K "Stamps")) (by rfl) T.g_Stamps rfl) T.r_Stamps T.cm_Stamps_of (rawC (ok_of T)) hr pass0 (pa_cons (pv 0) pa_nil)) pa_nil)))), ?_⟩
    refine ⟨rfl, by show 2 ≤ sizeLine; decide, fun L nL => ⟨_, rfl, .inr ⟨il, rfl, L, _, _, .str (bandN il), rfl, rfl, SqL.of upd_same, ?_, rfl, ?_⟩⟩⟩
    · cases il <;> rfl
    have sL := same_upd (o := .lst [V.str "window", V.str "line"]) nL
    refine ⟨_, rfl, _, a, ws, W, rfl, sL _ _ ha, ok, fun H1 p s1 hs => ⟨_, p, il, ws, W, rfl, hs, ok, fun H2 b s2 hb => q H2 b ((sL.trans s1).trans s2) hb⟩⟩
abbrev N_ls : List Str := ["rows", "row", "state"]
theorem sc_ls : FnScope N_ls ["rows"] (defScope s__law_listed) := ⟨rfl, rfl, rfl, by decide +kernel, rfl, by decide +kernel, by decide +kernel⟩
theorem b_ls : BindsX "_law_listed" "_law_listed" s__law_listed ["rows"] := fun _ _ _ _ _ _ us hl => match us, hl with | [_], _ => rfl
theorem ok_ls (T : Txt K mg) : CallC P w K mg base CX0 1 "_law_listed" ["rows"] (spListed K) := by
  refine ⟨kept_of T.f__law_listed sc_ls b_ls (fun vs H Q E h => ?_) (fun cdv A outer s H vs Q E hr h => ?_), T.g__law_listed, keep T.f__law_listed⟩
  · obtain ⟨p, ws, W, ms, rfl, _⟩ := h
    rfl
  · obtain ⟨p, ws, W, ms, rfl, hp, oks, lms, q⟩ := h
    have hu := hu_of hr
    refine ⟨_, pss_one (ps_ret (pe_lc (own := [("row", 1)]) (te := tLc (iList K (tCB rSortDT (tCons (tVar 1) tNil))) (gName 2) tYes (tTup (tCons (tOp (rIxT K) (tVar 2) (tC (.int 0))) (tCons (tOp (rIxT K) (tVar 2) (tC (.int 1))) (tCons (tDGet (tVar 1) (tVar 2)) tNil)))) [2]) rfl sc_ls.nd (pi_list (pv 0)) (blkOk_by (N := N_ls) (sc := defScope s__law_listed) (by decide +kernel))
      (fun _ _ _ _ _ => pg_name (i := 1) sc_ls.nd rfl (.inr rfl)) (fun _ _ _ _ _ => pts_nil)
      (fun _ _ _ _ _ => pe_lc (own := [("state", 2)]) rfl sc_ls.nd (pi_list (pe_callB (cr_sortDT rfl) (by rfl) T.z_sorted (by decide +kernel) (pa_cons (pv 1) pa_nil))) (blkOk_by (N := N_ls) (sc := { kind := .function, names := [(Str.ofString ".0", .local), (Str.ofString "row", .cell), (Str.ofString "sorted", .globalImplicit)], isGenerator := false, isCoroutine := false }) (by decide +kernel))
        (fun _ _ _ _ _ => pg_name (i := 2) sc_ls.nd rfl (.inl rfl)) (fun _ _ _ _ _ => pts_nil)
        (fun _ _ _ _ _ => pe_tup (pa_cons (pe_ix ix_tup (pv 2) pe_int (fun _ _ => rfl)) (pa_cons (pe_ix ix_tup (pv 2) pe_int (fun _ _ => rfl)) (pa_cons (pe_dget hu (pv 1) (pv 2) (fun _ _ => rfl)) pa_nil))))))), ?_⟩
    obtain ⟨ds, hp1, hd⟩ := hp
    have lds := paired_len hd
    refine ⟨_, rfl, p, rfl, ⟨_, SqL.of hp1⟩, fun D nD => ?_⟩
    refine lc_list (K := K) (a := p) (xs := ds.map V.ref) (fun n H' => Same H H' ∧ TabAt H' D (ms.take n)) ⟨same_upd nD, [], upd_same, .nil⟩ (fun _ _ _ h => SqL.of (h.1 _ _ hp1)) ?_ ?_
    · rintro n x H1 hx ⟨s1, hT⟩
      rw [List.getElem?_map] at hx
      obtain ⟨d, hdn, rfl⟩ := Option.map_eq_some_iff.mp hx
      obtain ⟨m, hm, hd1⟩ := paired_get hd hdn
      have hd2 := s1 _ _ hd1
      have okp := oks m (List.mem_of_getElem? hm)
      have tkm : ms.take (n + 1) = ms.take n ++ [m] := by rw [List.take_add_one, hm]; rfl
      refine ⟨rfl, lcY ?_⟩
      refine ⟨_, rfl, d, m.map fun e : IK × Int => ((e.1 : IK), V.int e.2), rfl, .inl hd2, by rw [List.length_map]; have := okp.len; omega, fun e he => ?_, fun ks2 qs2 p2 hpm hw hk2 np2 => ⟨p2, rfl, ⟨_, SqL.of upd_same⟩, fun R nR => ?_⟩⟩
      · obtain ⟨e0, he0, rfl⟩ := List.mem_map.mp he
        exact okp.sm e0 he0
      have ek : ks2 = m.map (·.1) := sorted_eq okp (by rw [List.map_map] at hpm; exact hpm) hw
      subst ek
      have sp := same_upd (o := .lst (qs2.map V.ref)) np2
      have hk3 : KeysAt (upd H1 p2 (.lst (qs2.map V.ref))) (m.map (·.1)) qs2 := keys_same hk2 fun q k e => sp _ _ e
      have hp2 := upd_same (H := H1) (a := p2) (o := .lst (qs2.map V.ref))
      have hd8 := sp _ _ hd2
      have hT8 := hT.same sp
      have s8 := s1.trans sp
      clear sp
      generalize upd H1 p2 (.lst (qs2.map V.ref)) = H8 at hk3 hp2 hd8 hT8 s8 nR
      refine lc_list (K := K) (a := p2) (xs := qs2.map V.ref) (fun n H' => Same H8 H' ∧ RowAt H' R (m.take n)) ⟨same_upd nR, [], upd_same, .nil⟩ (fun _ _ _ h => SqL.of (h.1 _ _ hp2)) ?_ ?_
      · rintro n x9 H9 hx ⟨s9, qr, h9, hq9⟩
        rw [List.getElem?_map] at hx
        obtain ⟨qa, hqa, rfl⟩ := Option.map_eq_some_iff.mp hx
        obtain ⟨k, hk4, hqt⟩ := keys_get hk3 hqa
        rw [List.getElem?_map] at hk4
        obtain ⟨e, he, rfl⟩ := Option.map_eq_some_iff.mp hk4
        have tk : m.take (n + 1) = m.take n ++ [e] := by rw [List.take_add_one, he]; rfl
        have hq2 := s9 _ _ hqt
        refine ⟨rfl, lcY ?_⟩
        refine ⟨_, rfl, qa, _, _, _, rfl, rfl, SqT.of hq2, rfl, _, rfl, qa, _, _, _, rfl, rfl, SqT.of hq2, rfl, _, rfl, _, rfl, d, V.int e.2, rfl, ?_, by show 3 ≤ sizeLine; decide, fun r nr => ⟨_, (same_upd nr) _ _ h9, ?_, ?_, qr ++ [r], ?_, ?_⟩⟩
        · have g := dget_B (k := e.1) (s9 _ _ hd8) hq2
          rw [val_at okp he] at g
          exact g
        · rw [List.length_map, paired_len hq9, List.length_take]
          have := okp.len
          exact small1000 (by omega)
        · exact Same.put (s9.trans (same_upd nr)) nR
        · rw [upd_same, List.map_append]; rfl
        · rw [tk]
          refine paired_imp (fun _ q e2 => ?_) (paired_snoc (F := fun (e' : IK × Int) q => upd _ r (.tup [V.int e.1.1, V.int e.1.2, V.int e.2]) q = some (.tup [.int e'.1.1, .int e'.1.2, .int e'.2])) upd_same (paired_imp (fun _ q e2 => (same_upd nr) _ _ e2) hq9))
          exact tup_upd ((same_upd nr) _ _ h9) _ _ e2
      · rintro H9 ⟨s9, hR9⟩
        rw [List.length_map, keys_len hk3, List.length_map, List.take_length] at hR9
        obtain ⟨rs, hD8, hrs⟩ := id hT8
        have hD9 := s9 _ _ hD8
        have lr := paired_len hrs
        refine ⟨_, hD9, ?_, SameBut.same (s8.trans s9) nD .upd, ?_⟩
        · rw [List.length_map, lr, List.length_take]
          exact small1000 (by omega)
        · rw [tkm]
          exact (hT8.same s9).snoc hR9 (ne_of_none hD8 nR).symm hD9
    · rintro H1 ⟨s1, hT⟩
      rw [List.length_map, lds, List.take_length] at hT
      exact q _ D s1 hT
end
end K42

set_option Elab.async false
set_option linter.all false
set_option maxRecDepth 100000
set_option maxHeartbeats 4000000
namespace K42
open PySem PySem.Spec PyProof.Rows L2 He Ov
/-- an expression whose dict stays locked from now on -/
theorem pe_lk {X : Cx} {e : Expr} {te : TE} (he : PE X e te) : PE X e (fun σ H Q => te σ H fun x H1 => ∃ d u, x = .ref d ∧ H1 d = some u ∧ Mut (some u) ∧ ∀ od, Q x (upd H1 d (.frz od u))) := by
  refine ⟨fun pins s σ H Q I h => ?_⟩
  refine thn (he.run pins s σ H _ I h) fun v s1 ⟨x, H1, I1, rx, d, u, ex, hd, mu, q⟩ => ?_
  obtain ⟨od, I2⟩ := I1.lock hd mu
  exact ⟨x, _, I2, rx, q od⟩
abbrev tLk (te : TE) : TE := fun σ H Q => te σ H fun x H1 => ∃ d u, x = .ref d ∧ H1 d = some u ∧ Mut (some u) ∧ ∀ od, Q x (upd H1 d (.frz od u))
/-- a list of rows, as it is given -/
def TabIn (H : Hp) (p : Addr) (ms : List Bs) : Prop := ∃ rs : List Addr, H p = some (.lst (rs.map V.ref)) ∧ Paired (fun m r => RowAt H r m) ms rs
theorem TabIn.same {H H' : Hp} {p : Addr} {ms : List Bs} (h : TabIn H p ms) (s : Same H H') : TabIn H' p ms := let ⟨rs, h1, h2⟩ := h; ⟨rs, s _ _ h1, paired_imp (fun _ _ e => e.same s) h2⟩
theorem TabAt.in_ {H : Hp} {p : Addr} {ms : List Bs} (h : TabAt H p ms) : TabIn H p ms := let ⟨rs, h1, h2⟩ := h; ⟨rs, h1, paired_imp (fun _ _ e => e.1) h2⟩
/-- rows whose states agree with a cell, ascending -/
structure RowOk (ws : List Str) (c : Nat) (m : Bs) : Prop where
  mem : ∀ e ∈ m, e.1 ∈ agr ws c
  pw : (m.map (·.1)).Pairwise lexLt
  len : m.length ≤ 36
theorem RowOk.nd {ws : List Str} {c : Nat} {m : Bs} (h : RowOk ws c m) : (m.map (·.1)).Nodup := h.pw.imp fun h e => by
  subst e
  rcases h with h | h <;> omega
def spWhole : Sp := fun vs H Q _ => ∃ i : Int, vs = [.int i] ∧ Q (.bl true) H
def spIsRow (K : PySem.W.Frag) : Sp := fun vs H Q _ => ∃ (g r : Addr) (ws : List Str) (W : Nat) (il : Bool) (z : Str) (j c : Nat) (m : Bs), vs = [.ref g, .int j, .ref r] ∧ GridAt K H g ws W il z ∧ WordsOk ws W ∧ z.length ≤ 1000 ∧ z.cps[j]? = some c ∧ RowAt H r m ∧ RowOk ws c m ∧ ∀ H', Same H H' → Q (.bl true) H'
def spIsTab (K : PySem.W.Frag) : Sp := fun vs H Q _ => ∃ (g p : Addr) (ws : List Str) (W : Nat) (il : Bool) (z : Str) (ms : List Bs), vs = [.ref g, .ref p] ∧ GridAt K H g ws W il z ∧ WordsOk ws W ∧ z.length ≤ 1000 ∧ TabIn H p ms ∧ ms.length = z.length ∧ (∀ i m, ms[i]? = some m → RowOk ws (sgn z i) m) ∧ ∀ H', Same H H' → Q (.bl true) H'
def spBIn : Sp := fun vs H Q _ => ∃ (r : Addr) (m : Bs), vs = [.ref r] ∧ RowAt H r m ∧ (m.map (·.1)).Nodup ∧ m.length ≤ 100 ∧ ∀ H' d, Same H H' → H d = none → H' d = some (.dT (encB m)) → Q (.ref d) H'
def spCan (K : PySem.W.Frag) : Sp := fun vs H Q _ => ∃ (g : Addr) (ws : List Str) (W : Nat) (il : Bool) (z : Str) (o : Int), vs = [.ref g, .int o] ∧ GridAt K H g ws W il z ∧ Q (.bl (decide (o = (W : Int) - 1) || !il)) H
def ikD (k : IK) : PyData := .tuple [.int k.1, .int k.2]
theorem dp_keys {K : PySem.W.Frag} {H : Hp} : ∀ {ks : List IK} {qs : List Addr}, KeysAt H ks qs → DpAll K H (qs.map V.ref) (ks.map ikD)
  | _, _, .nil => .nil
  | _, _, .cons r t => .cons (.tup (SqT.of r) (dp_ints [_, _])) (dp_keys t)
theorem shaped_keys (ks : List IK) : SeqAt.shaped (.list (ks.map ikD)) = true := by
  have h1 : ∀ ks : List IK, PyData.canLayAll0 (ks.map ikD) = true := fun ks => by
    induction ks with
    | nil => rfl
    | cons k r ih =>
      show (PyData.canLay0 (ikD k) && PyData.canLayAll0 (r.map ikD)) = true
      rw [ih]; rfl
  have h2 : ∀ ks : List IK, PyData.depthAll (ks.map ikD) ≤ 1 := fun ks => by
    induction ks with
    | nil => exact Nat.zero_le _
    | cons k r ih =>
      show max (PyData.depth (ikD k)) (PyData.depthAll (r.map ikD)) ≤ 1
      exact Nat.max_le.mpr ⟨Nat.le_refl 1, ih⟩
  unfold SeqAt.shaped
  have a : PyData.canLay0 (.list (ks.map ikD)) = true := h1 ks
  have b : PyData.depth (.list (ks.map ikD)) ≤ 64 := by
    show PyData.depthAll (ks.map ikD) + 1 ≤ 64
    have := h2 ks
    omega
  rw [a, decide_eq_true b]; rfl
theorem any_key {k : IK} {ks : List IK} (h : k ∈ ks) : (ks.map ikD).any (fun z => PyData.eqv z (ikD k)) = true := by
  rw [List.any_eq_true]
  refine ⟨ikD k, List.mem_map.mpr ⟨k, h, rfl⟩, ?_⟩
  unfold ikD
  rw [pair_eqv, decide_eq_true rfl]
theorem row_get {H : Hp} {r : Addr} {m : Bs} {qs : List Addr} (h : Paired (fun (e : IK × Int) q => H q = some (.tup [.int e.1.1, .int e.1.2, .int e.2])) m qs) {n : Nat} {q : Addr} (hq : qs[n]? = some q) : ∃ e, m[n]? = some e ∧ H q = some (.tup [.int e.1.1, .int e.1.2, .int e.2]) := paired_get h hq
theorem cutV_drop {xs : List V} {k : Nat} : cutV xs (some (k : Int)) none = xs.drop k := by
  unfold cutV
  rw [HT.sIx_nat, HT.sIx_none]
  by_cases h : k ≤ xs.length
  · rw [Nat.min_eq_left h]
    exact List.take_of_length_le (by rw [List.length_drop]; exact Nat.le_refl _)
  · rw [Nat.min_eq_right (by omega), Nat.sub_self, List.take_zero, List.drop_eq_nil_of_le (by omega)]
theorem cutV_take {xs : List V} {k : Nat} : cutV xs none (some (k : Int)) = xs.take k := by
  unfold cutV
  rw [HT.sIx_nat, HT.sIx_none, List.drop_zero, Nat.sub_zero]
  by_cases h : k ≤ xs.length
  · rw [Nat.min_eq_left h]
  · rw [Nat.min_eq_right (by omega), List.take_of_length_le (Nat.le_refl _), List.take_of_length_le (by omega)]
theorem cutV_from {xs : List V} : cutV xs (some 1) none = xs.drop 1 := cutV_drop (k := 1)
section
variable {P : Program} {w : World} {K : PySem.W.Frag} {mg : Str → Option Value} {base : Heap}
abbrev N_wn : List Str := ["thing"]
theorem sc_wn : FnScope N_wn ["thing"] (defScope s_is_whole_number) := ⟨rfl, rfl, rfl, by decide +kernel, rfl, by decide +kernel, by decide +kernel⟩
theorem b_wn : BindsX "is_whole_number" "is_whole_number" s_is_whole_number ["thing"] := fun _ _ _ _ _ _ us hl => match us, hl with | [_], _ => rfl
theorem ok_wn (T : Txt K mg) : CallC P w K mg base CX0 1 "is_whole_number" ["thing"] spWhole := by
  refine ⟨kept_of T.f_is_whole_number sc_wn b_wn (fun vs H Q E h => ?_) (fun cdv A outer s H vs Q E hr h => ?_), T.g_is_whole_number, keep T.f_is_whole_number⟩
  · obtain ⟨i, rfl, _⟩ := h
    rfl
  · obtain ⟨i, rfl, q⟩ := h
    refine ⟨_, pss_one (ps_ret (pe_and (pe_callB call_isi (by rfl) T.z_isinstance (by decide +kernel) (pa_cons (pv 0) (pa_cons (pe_bty (n := "int") (by rfl) T.z_int) pa_nil)))
      (pe_one (pe_not (pe_callB call_isi (by rfl) T.z_isinstance (by decide +kernel) (pa_cons (pv 0) (pa_cons (pe_bty (n := "bool") (by rfl) T.z_bool) pa_nil))))))), ?_⟩
    exact ⟨_, rfl, _, _, _, _, true, rfl, .ty "int", .base (.int i), kit_ty (by decide +kernel), _, rfl, iteT ⟨_, rfl, _, _, _, _, false, rfl, .ty "bool", .base (.int i), kit_ty (by decide +kernel), _, rfl, q⟩⟩
abbrev N_ce : List Str := ["self", "offset"]
theorem sc_ce : FnScope N_ce ["self", "offset"] (defScope s_Grid_can_end) := ⟨rfl, rfl, rfl, by decide +kernel, rfl, by decide +kernel, by decide +kernel⟩
theorem b_ce : BindsX "can_end" "Grid.can_end" s_Grid_can_end ["self", "offset"] := fun _ _ _ _ _ _ us hl => match us, hl with | [_, _], _ => rfl
theorem ok_ce (T : Txt K mg) : MethC P w K mg base CX0 1 (ga K "Grid") "can_end" ["self", "offset"] (spCan K) := by
  refine ⟨kept_of T.f_Grid_can_end sc_ce b_ce (fun vs H Q E h => ?_) (fun cdv A outer s H vs Q E hr h => ?_), T.m_Grid_can_end⟩
  · obtain ⟨g, ws, W, il, z, o, rfl, _⟩ := h
    rfl
  · obtain ⟨g, ws, W, il, z, o, rfl, ⟨dx, l, hg, hl⟩, q⟩ := h
    refine ⟨_, pss_one (ps_ret (pe_or (pe_cmpR op_eq (pv 1) (pe_fld (pv 0) rfl) (nomark _)) (pe_one (pe_not (pe_fld (pv 0) rfl))))), ?_⟩
    refine ⟨_, rfl, _, rfl, g, _, dx, _, _, rfl, hg, T.cl_Grid, T.n_Grid_last_offset, rfl, rfl, _, rfl, ?_⟩
    show (if decide (V.int o = V.int ((W : Int) - 1)) = true then _ else _)
    by_cases c : o = (W : Int) - 1
    · rw [decide_eq_true (congrArg V.int c)]
      rw [decide_eq_true c] at q
      exact iteT q
    · rw [decide_eq_false (fun e : V.int o = V.int ((W : Int) - 1) => c (by injection e))]
      rw [decide_eq_false c] at q
      exact iteF ⟨_, rfl, g, _, dx, _, _, rfl, hg, T.cl_Grid, T.n_Grid_is_line, rfl, il, rfl, q⟩
abbrev N_ir : List Str := ["grid", "cell", "thing", "allowed", "entry", "part", "one", "other"]
theorem sc_ir : FnScope N_ir ["grid", "cell", "thing"] (defScope s_is_row_tables) := ⟨rfl, rfl, rfl, by decide +kernel, rfl, by decide +kernel, by decide +kernel⟩
theorem b_ir : BindsX "is_row" "is_row" s_is_row_tables ["grid", "cell", "thing"] := fun _ _ _ _ _ _ us hl => match us, hl with | [_, _, _], _ => rfl
theorem ok_ir (T : Txt K mg) : CallC P w K mg base CX0 2 "is_row_tables" ["grid", "cell", "thing"] (spIsRow K) := by
  refine ⟨kept_of T.f_is_row_tables sc_ir b_ir (fun vs H Q E h => ?_) (fun cdv A outer s H vs Q E hr h => ?_), T.g_is_row_tables, keep T.f_is_row_tables⟩
  · obtain ⟨g, r, ws, W, il, z, j, c, m, rfl, _⟩ := h
    rfl
  · obtain ⟨g, r, ws, W, il, z, j, c, m, rfl, hg, ok, lz, hc, hm, rok, q⟩ := h
    have hu65 : (A.deeper (envOfC "is_row" (defScope s_is_row_tables) s.heap.objs.size (ga K "is_row_tables") cdv)).units + 65 < cLine := by have := hr.un; omega
    refine ⟨_, pss_cons (ps_if (pt_not (pt_val (pe_callB call_isi (by rfl) T.z_isinstance (by decide +kernel) (pa_cons (pv 2) (pa_cons (pe_bty (n := "list") (by rfl) T.z_list) pa_nil))))) (pss_one ps_never) pss_nil)
      (pss_cons (ps_set (i := 3) sc_ir.nd rfl (.inl rfl) (pe_methC (pv 0) T.cl_Grid (ok_agr T) hr pass0 (pa_cons (pv 1) pa_nil)))
      (pss_cons (ps_for PassesOwn.never rfl (pi_list (pv 2)) (pg_name (i := 4) sc_ir.nd rfl (.inl rfl))
        (pss_cons (ps_if (PW.pt (pw_or (pt_not (pt_val (pe_callB call_isi (by rfl) T.z_isinstance (by decide +kernel) (pa_cons (pv 4) (pa_cons (pe_bty (n := "tuple") (by rfl) T.z_tuple) pa_nil)))))
          (pw_or (pt_cmpR op_ne (pe_callB call_len_seq (by rfl) T.z_len PySem.boot_len (pa_cons (pv 4) pa_nil)) pe_int (nomark _))
          (pw_or1 (pt_not (pt_val (pe_callB (cr_all rfl) (by rfl) T.z_all (by decide +kernel) (pa_cons (pe_lc (own := [("part", 5)]) rfl sc_ir.nd (pi_tup (pv 4)) (blkOk_by (N := N_ir) (sc := defScope s_is_row_tables) (by decide +kernel)) (fun _ _ _ _ _ => pg_name (i := 5) sc_ir.nd rfl (.inl rfl)) (fun _ _ _ _ _ => pts_nil)
            (fun _ _ _ _ _ => pe_callC (ok_wn T) hr (by rfl) pass0 (pa_cons (pv 5) pa_nil))) pa_nil)))))))) (pss_one ps_never) pss_nil)
        (pss_one (ps_if (pt_cmpR (op_notInD hu65) (pe_slice sl_tup (pv 4) po_none (po_some pe_int)) (pv 3) (by rfl)) (pss_one ps_never) pss_nil))))
      (pss_one (ps_ret (pe_callB (cr_all rfl) (by rfl) T.z_all (by decide +kernel) (pa_cons (pe_lc (own := [("one", 6), ("other", 7)]) (g := gTup K 2 (gCons (gName 6) (gCons (gName 7) gNil))) (te := tOp (rLtT K) (tSl (rSlT K) (tVar 6) tNoPart (tPart (tC (.int 2)))) (tSl (rSlT K) (tVar 7) tNoPart (tPart (tC (.int 2))))) rfl sc_ir.nd
        (pi_zip (by rfl) T.z_zip (pa_cons (pv 2) (pa_cons (pe_slice sl_list (pv 2) (po_some pe_int) po_none) pa_nil))) (blkOk_by (N := N_ir) (sc := defScope s_is_row_tables) (by decide +kernel))
        (fun _ _ _ _ _ => pg_tup rfl (pgs_cons (pg_name (i := 6) sc_ir.nd rfl (.inl rfl)) (pgs_cons (pg_name (i := 7) sc_ir.nd rfl (.inl rfl)) pgs_nil))) (fun _ _ _ _ _ => pts_nil)
        (fun _ _ _ _ _ => pe_cmpR (op_ltT hr.units0) (pe_slice sl_tup (pv 6) po_none (po_some pe_int)) (pe_slice sl_tup (pv 7) po_none (po_some pe_int)) (nomark _))) pa_nil)))))), ?_⟩
    obtain ⟨qr, hr1, hrq⟩ := hm
    have lq := paired_len hrq
    have l100 := rok.len
    refine ⟨_, rfl, _, _, _, _, true, rfl, .ty "list", .base (.lst hr1), kit_ty (by decide +kernel), true, rfl, iteF ?_⟩
    obtain ⟨dxg, lg, hg1, hgl⟩ := id hg
    refine ⟨_, rfl, g, dxg, _, rfl, hg1, rfl, _, rfl, g, ws, W, il, z, j, c, rfl, hg, ok, lz, hc, fun H1 pa s1 npa ⟨qs, ha, hk⟩ => ?_⟩
    have hr2 := s1 _ _ hr1
    have hrq1 : Paired (fun (e : IK × Int) q => H1 q = some (.tup [.int e.1.1, .int e.1.2, .int e.2])) m qr := paired_imp (fun _ _ e => s1 _ _ e) hrq
    refine ⟨_, rfl, r, rfl, ⟨_, SqL.of hr2⟩, ?_⟩
    refine for_list (K := K) (a := r) (xs := qr.map V.ref) (fun n σ H' => (∃ v4, σ = [some (.ref g), some (.int j), some (.ref r), some (.ref pa), v4, none, none, none]) ∧ Same H1 H') ⟨⟨_, rfl⟩, .refl _⟩ (fun n σ H' _ h => SqL.of (h.2 _ _ hr2)) ?_ ?_
    · rintro n x σ H2 hx ⟨⟨v4, rfl⟩, s2⟩
      rw [List.getElem?_map] at hx
      obtain ⟨qa, hqa, rfl⟩ := Option.map_eq_some_iff.mp hx
      obtain ⟨e, he, hq1⟩ := row_get (r := r) hrq1 hqa
      have hq2 := s2 _ _ hq1
      have emem := rok.mem e (List.mem_of_getElem? he)
      refine ⟨_, rfl, _, _, _, _, true, rfl, .ty "tuple", .base (.tup hq2), kit_ty (by decide +kernel), true, rfl, iteF ?_⟩
      refine ⟨_, rfl, qa, _, rfl, .inr (SqT.of hq2), rfl, false, rfl, iteF ?_⟩
      refine ⟨_, rfl, qa, rfl, ⟨_, SqT.of hq2⟩, fun D nD => ?_⟩
      refine lc_tup (K := K) (a := qa) (xs := [.int e.1.1, .int e.1.2, .int e.2]) (fun i H' => Same H2 H' ∧ H' D = some (.lst ((List.replicate i true).map V.bl))) ⟨same_upd nD, upd_same⟩ (fun _ _ _ h => SqT.of (h.1 _ _ hq2)) ?_ ?_
      · rintro i x H3 hx ⟨s3, hD⟩
        have hi : i < 3 := (List.getElem?_eq_some_iff.mp hx).1
        obtain ⟨v, rfl⟩ : ∃ v : Int, x = .int v := by
          match i, hx with
          | 0, h => exact ⟨_, (Option.some.inj h).symm⟩
          | 1, h => exact ⟨_, (Option.some.inj h).symm⟩
          | 2, h => exact ⟨_, (Option.some.inj h).symm⟩
        refine ⟨rfl, lcY ⟨_, rfl, v, rfl, _, hD, ?_, Same.put s3 nD, ?_⟩⟩
        · rw [List.length_map, List.length_replicate]
          exact small1000 (by omega)
        · rw [upd_same, snoc_true]
      · rintro H3 ⟨s3, hD⟩
        refine ⟨_, _, rfl, SqL.of hD, ?_⟩
        rw [all_rep]
        refine ⟨true, rfl, iteF ?_⟩
        have hq3 := s3 _ _ hq2
        have s13 := s2.trans s3
        have hk3 := keys_same hk fun q k e => s13 _ _ e
        refine ⟨_, rfl, _, rfl, qa, _, rfl, SqT.of hq3, by show ¬ (HT.sIx 3 0 none = 0 ∧ HT.sIx 3 3 (some 2) = 3); decide, fun t nt => ?_⟩
        have st := same_upd (o := .tup [V.int e.1.1, V.int e.1.2]) nt
        refine ⟨_, rfl, ikD e.1, (agr ws c).map ikD, .tup (SqT.of upd_same) (dp_ints [_, _]), .lst (SqL.of (st _ _ (s13 _ _ ha))) (dp_keys (keys_same hk3 fun q k e => st _ _ e)), rfl, shaped_keys _, _, rfl, ?_⟩
        rw [any_key emem]
        exact iteF ⟨⟨_, rfl⟩, s13.trans st⟩
    · rintro σ H2 ⟨⟨v4, rfl⟩, s2⟩
      have hr3 := s2 _ _ hr2
      refine ⟨_, rfl, _, rfl, _, rfl, r, _, rfl, SqL.of hr3, fun p2 np2 => ?_⟩
      have sp := same_upd (o := .lst (cutV (qr.map V.ref) (some 1) none)) np2
      have hp2 := upd_same (H := H2) (a := p2) (o := .lst (cutV (qr.map V.ref) (some 1) none))
      have s12 := s2.trans sp
      have hr4 := sp _ _ hr3
      generalize upd H2 p2 (.lst (cutV (qr.map V.ref) (some 1) none)) = H3 at hp2 s12 hr4
      clear sp
      have ecut : cutV (qr.map V.ref) (some 1) none = (qr.drop 1).map V.ref := by rw [cutV_from]; rw [List.map_drop]
      rw [ecut] at hp2
      have hrq3 : Paired (fun (e : IK × Int) q => H3 q = some (.tup [.int e.1.1, .int e.1.2, .int e.2])) m qr := paired_imp (fun _ _ e => s12 _ _ e) hrq1
      refine ⟨r, p2, _, _, rfl, SqL.of hr4, SqL.of hp2, fun D nD => ?_⟩
      refine lc_it (walk_zip (xs := qr.map V.ref) (ys := (qr.drop 1).map V.ref) (n := min (qr.map V.ref).length ((qr.drop 1).map V.ref).length) rfl) (fun i H' => Same H3 H' ∧ H' D = some (.lst ((List.replicate i true).map V.bl))) ⟨same_upd nD, upd_same⟩ (fun _ _ _ h => ⟨SqL.of (h.1 _ _ hr4), SqL.of (h.1 _ _ hp2)⟩) ?_ ?_
      · rintro i x H4 H5 hi ⟨s4, hD⟩ ⟨T0, x0, y0, rfl, nT, rfl, e0, e1⟩
        have e0 : (qr.map V.ref)[i]? = some x0 := e0
        have e1 : ((qr.drop 1).map V.ref)[i]? = some y0 := e1
        rw [List.getElem?_map] at e0 e1
        obtain ⟨qa, hqa, rfl⟩ := Option.map_eq_some_iff.mp e0
        obtain ⟨qb, hqb, rfl⟩ := Option.map_eq_some_iff.mp e1
        rw [List.getElem?_drop] at hqb
        obtain ⟨ea, hea, ha4⟩ := row_get (r := r) hrq3 hqa
        obtain ⟨eb, heb, hb4⟩ := row_get (r := r) hrq3 hqb
        have lt : lexLt ea.1 eb.1 := by
          have h1 : (m.map (·.1))[i]? = some ea.1 := by rw [List.getElem?_map, hea]; rfl
          have h2 : (m.map (·.1))[1 + i]? = some eb.1 := by rw [List.getElem?_map, heb]; rfl
          obtain ⟨l1, g1⟩ := List.getElem?_eq_some_iff.mp h1
          obtain ⟨l2, g2⟩ := List.getElem?_eq_some_iff.mp h2
          have := List.pairwise_iff_getElem.mp rok.pw i (1 + i) l1 l2 (by omega)
          rw [g1, g2] at this
          exact this
        have st := same_upd (o := .tup [V.ref qa, V.ref qb]) nT
        have hT := upd_same (H := H4) (a := T0) (o := .tup [V.ref qa, V.ref qb])
        have s5 := s4.trans st
        have hD5 := st _ _ hD
        clear st
        generalize upd H4 T0 (.tup [V.ref qa, V.ref qb]) = H5 at hT s5 hD5
        have ha5 := s5 _ _ ha4
        have hb5 := s5 _ _ hb4
        refine ⟨T0, _, rfl, SqT.of hT, rfl, _, _, rfl, _, _, rfl, rfl, rfl, lcY ?_⟩
        refine ⟨_, rfl, _, rfl, qa, _, rfl, SqT.of ha5, by show ¬ (HT.sIx 3 0 none = 0 ∧ HT.sIx 3 3 (some 2) = 3); decide, fun t1 nt1 => ?_⟩
        have st1 := same_upd (o := .tup (cutV [V.int ea.1.1, V.int ea.1.2, V.int ea.2] none (some 2))) nt1
        refine ⟨_, rfl, _, rfl, qb, _, rfl, SqT.of (st1 _ _ hb5), by show ¬ (HT.sIx 3 0 none = 0 ∧ HT.sIx 3 3 (some 2) = 3); decide, fun t2 nt2 => ?_⟩
        have st2 := same_upd (o := .tup (cutV [V.int eb.1.1, V.int eb.1.2, V.int eb.2] none (some 2))) nt2
        refine ⟨t1, t2, [ea.1.1, ea.1.2], [eb.1.1, eb.1.2], rfl, rfl, SqT.of (st2 _ _ upd_same), SqT.of upd_same, _, st2 _ _ (st1 _ _ hD5), ?_, ?_, ?_⟩
        · rw [List.length_map, List.length_replicate]
          have : i < (qr.map V.ref).length := Nat.lt_of_lt_of_le hi (Nat.min_le_left _ _)
          rw [List.length_map] at this
          exact small1000 (by omega)
        · exact Same.put ((s5.trans st1).trans st2) nD
        · have el : HT.lexLt [ea.1.1, ea.1.2] [eb.1.1, eb.1.2] = true := by
            rw [HT.lexLt_cons]
            unfold lexLt at lt
            by_cases c : ea.1.1 = eb.1.1
            · rw [if_pos c, HT.lexLt_cons, if_neg (by omega), decide_eq_true (by omega)]
            · rw [if_neg c, decide_eq_true (by omega)]
          rw [upd_same, el, snoc_true]
      · rintro H4 ⟨s4, hD⟩
        refine ⟨_, _, rfl, SqL.of hD, ?_⟩
        rw [all_rep]
        exact q _ ((s1.trans s12).trans s4)
end
end K42

set_option Elab.async false
set_option linter.all false
set_option maxRecDepth 100000
set_option maxHeartbeats 4000000
namespace K42
open PySem PySem.Spec PyProof.Rows L2 He Ov
/-- the bounds of the cell are allowed: each wanted one is there and not greater -/
def folB (after want : Bs) : Bool := want.all fun e => match valB after e.1 with
  | some x => decide (x ≤ e.2)
  | none => false
def spFol (K : PySem.W.Frag) : Sp := fun vs H Q _ => ∃ (g d1 d2 : Addr) (ws : List Str) (W : Nat) (il : Bool) (z : Str) (j c : Nat) (m m2 : Bs), vs = [.ref g, .int j, .ref d1, .ref d2] ∧ GridAt K H g ws W il z ∧ WordsOk ws W ∧ z.length ≤ 1000 ∧ z.cps[j]? = some c ∧
  H d1 = some (.dT (encB m)) ∧ m.length ≤ 36 ∧ H d2 = some (.dT (encB m2)) ∧ ∀ H', Same H H' → Q (.bl (folB m2 (stepG (fun k => minO (some1 W m k)) (agr ws c)))) H'
section
variable {P : Program} {w : World} {K : PySem.W.Frag} {mg : Str → Option Value} {base : Heap}
abbrev N_it : List Str := ["grid", "thing", "cell", "row"]
theorem sc_it : FnScope N_it ["grid", "thing"] (defScope s_is_table) := ⟨rfl, rfl, rfl, by decide +kernel, rfl, by decide +kernel, by decide +kernel⟩
theorem b_it : BindsX "is_table" "is_table" s_is_table ["grid", "thing"] := fun _ _ _ _ _ _ us hl => match us, hl with | [_, _], _ => rfl
theorem ok_it (T : Txt K mg) : CallC P w K mg base CX0 3 "is_table" ["grid", "thing"] (spIsTab K) := by
  refine ⟨kept_of T.f_is_table sc_it b_it (fun vs H Q E h => ?_) (fun cdv A outer s H vs Q E hr h => ?_), T.g_is_table, keep T.f_is_table⟩
  · obtain ⟨g, p, ws, W, il, z, ms, rfl, _⟩ := h
    rfl
  · obtain ⟨g, p, ws, W, il, z, ms, rfl, hg, ok, lz, ⟨rs, hp, hrs⟩, lms, oks, q⟩ := h
    refine ⟨_, pss_cons (ps_if (PW.pt (pw_or (pt_not (pt_val (pe_callB call_isi (by rfl) T.z_isinstance (by decide +kernel) (pa_cons (pv 1) (pa_cons (pe_bty (n := "list") (by rfl) T.z_list) pa_nil)))))
        (pw_or1 (pt_cmpR op_ne (pe_callB call_len_seq (by rfl) T.z_len PySem.boot_len (pa_cons (pv 1) pa_nil)) (pe_callB call_len_str (by rfl) T.z_len PySem.boot_len (pa_cons (pe_fld (pv 0) rfl) pa_nil)) (nomark _))))) (pss_one ps_never) pss_nil)
      (pss_one (ps_ret (pe_callB (cr_all rfl) (by rfl) T.z_all (by decide +kernel) (pa_cons (pe_lc (own := [("cell", 2), ("row", 3)]) (g := gTup K 2 (gCons (gName 2) (gCons (gName 3) gNil))) (te := tCall (spIsRow K) [] E0 (tCons (tVar 0) (tCons (tVar 2) (tCons (tVar 3) tNil)))) rfl sc_it.nd (pi_enum (by rfl) T.z_enumerate (pa_cons (pv 1) pa_nil)) (blkOk_by (N := N_it) (sc := defScope s_is_table) (by decide +kernel))
        (fun _ _ _ _ _ => pg_tup rfl (pgs_cons (pg_name (i := 2) sc_it.nd rfl (.inl rfl)) (pgs_cons (pg_name (i := 3) sc_it.nd rfl (.inl rfl)) pgs_nil))) (fun _ _ _ _ _ => pts_nil)
        (fun _ _ _ _ _ => pe_callC (ok_ir T) hr (by rfl) pass0 (pa_cons (pv 0) (pa_cons (pv 2) (pa_cons (pv 3) pa_nil))))) pa_nil)))), ?_⟩
    obtain ⟨dxg, lg, hg1, hgl⟩ := id hg
    have lr := paired_len hrs
    refine ⟨_, rfl, _, _, _, _, true, rfl, .ty "list", .base (.lst hp), kit_ty (by decide +kernel), true, rfl, iteF ?_⟩
    refine ⟨_, rfl, p, _, rfl, .inl (SqL.of hp), _, rfl, g, _, dxg, _, _, rfl, hg1, T.cl_Grid, T.n_Grid_letters, rfl, _, rfl, len_le lz, rfl, false, ?_, iteF ?_⟩
    · rw [List.length_map, lr, lms, decide_eq_true rfl]; rfl
    refine ⟨_, rfl, p, _, rfl, SqL.of hp, fun D nD => ?_⟩
    refine lc_it walk_enum (fun i H' => Same H H' ∧ H' D = some (.lst ((List.replicate i true).map V.bl))) ⟨same_upd nD, upd_same⟩ (fun _ _ _ h => SqL.of (h.1 _ _ hp)) ?_ ?_
    · rintro i x H1 H2 hi ⟨s1, hD⟩ ⟨T0, x0, y0, rfl, nT, rfl, e0, e1⟩
      have e0' := Option.some.inj e0
      subst e0'
      have e1 : (rs.map V.ref)[i]? = some y0 := e1
      rw [List.getElem?_map] at e1
      obtain ⟨r, hr1, rfl⟩ := Option.map_eq_some_iff.mp e1
      obtain ⟨m, hm, hrow⟩ := paired_get hrs hr1
      have st := same_upd (o := .tup [V.int (i : Nat), V.ref r]) nT
      have hT := upd_same (H := H1) (a := T0) (o := .tup [V.int (i : Nat), V.ref r])
      have s2 := s1.trans st
      have hD2 := st _ _ hD
      clear st
      generalize upd H1 T0 (.tup [V.int (i : Nat), V.ref r]) = H2 at hT s2 hD2
      have iz : i < z.length := by
        have := (List.getElem?_eq_some_iff.mp hm).1
        omega
      refine ⟨T0, _, rfl, SqT.of hT, rfl, _, _, rfl, _, _, rfl, rfl, rfl, lcY ⟨_, rfl, _, rfl, _, rfl, g, r, ws, W, il, z, i, _, m, rfl, hg.same s2, ok, lz, sgn_at iz, hrow.same s2, oks i m hm, fun H3 s3 => ⟨_, s3 _ _ hD2, ?_, Same.put (s2.trans s3) nD, ?_⟩⟩⟩
      · rw [List.length_map, List.length_replicate]
        exact small1000 (by omega)
      · rw [upd_same, snoc_true]
    · rintro H1 ⟨s1, hD⟩
      refine ⟨_, _, rfl, SqL.of hD, ?_⟩
      rw [all_rep]
      exact q _ s1
abbrev N_bn : List Str := ["row", "word", "offset", "bound"]
theorem sc_bn : FnScope N_bn ["row"] (defScope s_bounds_in) := ⟨rfl, rfl, rfl, by decide +kernel, rfl, by decide +kernel, by decide +kernel⟩
theorem b_bn : BindsX "bounds_in" "bounds_in" s_bounds_in ["row"] := fun _ _ _ _ _ _ us hl => match us, hl with | [_], _ => rfl
theorem ok_bn (T : Txt K mg) : CallC P w K mg base CX0 1 "bounds_in" ["row"] spBIn := by
  refine ⟨kept_of T.f_bounds_in sc_bn b_bn (fun vs H Q E h => ?_) (fun cdv A outer s H vs Q E hr h => ?_), T.g_bounds_in, keep T.f_bounds_in⟩
  · obtain ⟨r, m, rfl, _⟩ := h
    rfl
  · obtain ⟨r, m, rfl, ⟨qr, hr1, hrq⟩, nd, lm, q⟩ := h
    refine ⟨_, pss_one (ps_ret (pe_dcT (own := [("word", 1), ("offset", 2), ("bound", 3)]) (g := gTup K 3 (gCons (gName 1) (gCons (gName 2) (gCons (gName 3) gNil)))) hr.units0 rfl sc_bn.nd (pi_list (pv 0)) (blkOk_by (N := N_bn) (sc := defScope s_bounds_in) (by decide +kernel))
      (fun _ _ _ _ _ => pg_tup rfl (pgs_cons (pg_name (i := 1) sc_bn.nd rfl (.inl rfl)) (pgs_cons (pg_name (i := 2) sc_bn.nd rfl (.inl rfl)) (pgs_cons (pg_name (i := 3) sc_bn.nd rfl (.inl rfl)) pgs_nil)))) (fun _ _ _ _ _ => pts_nil)
      (fun _ _ _ _ _ => pe_tup (pa_cons (pv 1) (pa_cons (pv 2) pa_nil))) (fun _ _ _ _ _ => pv 3))), ?_⟩
    refine ⟨_, rfl, r, rfl, ⟨_, SqL.of hr1⟩, fun D nD => ?_⟩
    refine dc_listT (K := K) (a := r) (xs := qr.map V.ref) (fun n H' => Same H H' ∧ H' D = some (.dT (encB (m.take n)))) ⟨same_upd nD, upd_same⟩ (fun _ _ _ h => SqL.of (h.1 _ _ hr1)) ?_ ?_
    · rintro n x H1 hx ⟨s1, hD⟩
      rw [List.getElem?_map] at hx
      obtain ⟨qa, hqa, rfl⟩ := Option.map_eq_some_iff.mp hx
      obtain ⟨e, he, hq⟩ := row_get (r := r) hrq hqa
      have hq1 := s1 _ _ hq
      have tk : m.take (n + 1) = m.take n ++ [e] := by rw [List.take_add_one, he]; rfl
      have kn : e.1 ∉ (m.take n).map (·.1) := by
        rw [List.map_take]
        exact nodup_take nd (by rw [List.getElem?_map, he]; rfl)
      refine ⟨qa, _, rfl, SqT.of hq1, rfl, _, _, rfl, _, _, rfl, _, _, rfl, rfl, rfl, lcY ⟨_, rfl, _, rfl, by show 2 ≤ sizeLine; decide, fun t nt => ⟨_, rfl, _, kT e.1, t, rfl, upd_same, (same_upd nt) _ _ hD, ?_, Same.put (s1.trans (same_upd nt)) nD, ?_⟩⟩⟩
      · rw [encB_len, List.length_take]
        exact small1000 (by omega)
      · rw [upd_same, put_enc kn, tk]
    · rintro H1 ⟨s1, hD⟩
      rw [List.length_map, paired_len hrq, List.take_length] at hD
      exact q _ D s1 nD hD
abbrev N_fl : List Str := ["grid", "cell", "before", "bounds", "state", "most"]
theorem sc_fl : FnScope N_fl ["grid", "cell", "before", "bounds"] (defScope s_follows) := ⟨rfl, rfl, rfl, by decide +kernel, rfl, by decide +kernel, by decide +kernel⟩
theorem b_fl : BindsX "follows" "follows" s_follows ["grid", "cell", "before", "bounds"] := fun _ _ _ _ _ _ us hl => match us, hl with | [_, _, _, _], _ => rfl
theorem ok_fl (T : Txt K mg) : CallC P w K mg base CX0 3 "follows" ["grid", "cell", "before", "bounds"] (spFol K) := by
  refine ⟨kept_of T.f_follows sc_fl b_fl (fun vs H Q E h => ?_) (fun cdv A outer s H vs Q E hr h => ?_), T.g_follows, keep T.f_follows⟩
  · obtain ⟨g, d1, d2, ws, W, il, z, j, c, m, m2, rfl, _⟩ := h
    rfl
  · obtain ⟨g, d1, d2, ws, W, il, z, j, c, m, m2, rfl, hg, ok, lz, hc, hd1, lm, hd2, q⟩ := h
    have hu := hu_of hr
    refine ⟨_, pss_cons (ps_for PassesOwn.never rfl (pi_itemsT (pe_lk (pe_callC (ok_lb T) hr (by rfl) pass0 (pa_cons (pv 0) (pa_cons (pv 1) (pa_cons (pv 2) pa_nil)))))) (pg_tup rfl (pgs_cons (pg_name (i := 4) sc_fl.nd rfl (.inl rfl)) (pgs_cons (pg_name (i := 5) sc_fl.nd rfl (.inl rfl)) pgs_nil)))
        (pss_one (ps_if (PW.pt (pw_or (pt_cmp (pc_dnotin hu (pv 4) (pv 3))) (pw_or1 (pt_cmpR op_gt (pe_dget hu (pv 3) (pv 4) (fun _ _ => rfl)) (pv 5) (nomark _))))) (pss_one (ps_ret pe_bl)) pss_nil)))
      (pss_one (ps_ret pe_bl)), ?_⟩
    refine ⟨_, rfl, _, rfl, _, rfl, g, d1, ws, W, il, z, j, c, m, rfl, hg, ok, lz, hc, hd1, lm, fun H1 d s1 nd hd => ⟨d, _, rfl, hd, trivial, fun od => ⟨d, od, _, rfl, upd_same, ?_⟩⟩⟩
    generalize hst : stepG (fun k => minO (some1 W m k)) (agr ws c) = st at hd q
    have lk : upd H1 d (.frz od (.dT (encB st))) d = some (.frz od (.dT (encB st))) := upd_same
    have sL : Same H (upd H1 d (.frz od (.dT (encB st)))) := SameBut.same s1 nd .upd
    generalize upd H1 d (.frz od (.dT (encB st))) = H2 at lk sL
    refine for_it walk_itemsT (fun n σ H' => (∃ v4 v5, σ = [some (.ref g), some (.int j), some (.ref d1), some (.ref d2), v4, v5]) ∧ Same H2 H' ∧ folB m2 (st.take n) = true) ⟨⟨_, _, rfl⟩, .refl _, rfl⟩ (fun n σ H' _ h => h.2.1 _ _ lk) ?_ ?_
    · rintro n x σ H3 H4 hn ⟨⟨v4, v5, rfl⟩, s3, hf⟩ ⟨T0, kk, v, qa, hkv, hqa, rfl, nT, rfl⟩
      obtain ⟨e, he, rfl, rfl⟩ := encB_get hkv
      have s4 := same_upd (o := .tup [V.ref qa, V.int e.2]) nT
      have hT := upd_same (H := H3) (a := T0) (o := .tup [V.ref qa, V.int e.2])
      have hq4 : upd H3 T0 (.tup [V.ref qa, V.int e.2]) qa = some (.tup [.int e.1.1, .int e.1.2]) := s4 _ _ hqa
      have s24 := s3.trans s4
      clear s4
      generalize upd H3 T0 (.tup [V.ref qa, V.int e.2]) = H4 at hT hq4 s24
      have hd24 := s24 _ _ (sL _ _ hd2)
      have tk : st.take (n + 1) = st.take n ++ [e] := by rw [List.take_add_one, he]; rfl
      have bad : (match valB m2 e.1 with | some x => decide (x ≤ e.2) | none => false) = false → folB m2 st = false := fun h => by
        unfold folB
        rw [← Bool.not_eq_true, List.all_eq_true]
        intro hall
        have := hall e (List.mem_of_getElem? he)
        rw [h] at this
        cases this
      have g1 := dget_B (k := e.1) hd24 hq4
      refine ⟨T0, _, rfl, SqT.of hT, rfl, _, _, rfl, _, _, rfl, rfl, ?_⟩
      refine ⟨_, rfl, _, rfl, d2, _, rfl, g1, _, rfl, ?_⟩
      cases hv : valB m2 e.1 with
      | none =>
        rw [hv] at bad
        refine iteT (iteT ?_)
        have := q H4 (sL.trans s24)
        rw [bad rfl] at this
        exact this
      | some y =>
        rw [hv] at g1 bad
        refine iteF ⟨_, rfl, _, rfl, d2, V.int y, rfl, g1, _, rfl, _, _, rfl, rfl, _, rfl, ?_⟩
        by_cases cy : y ≤ e.2
        · rw [decide_eq_false (by omega)]
          refine iteF ⟨⟨_, _, rfl⟩, s24, ?_⟩
          rw [tk]
          unfold folB at *
          rw [List.all_append, hf, List.all_cons, hv]
          simp [cy]
        · rw [decide_eq_true (by omega : e.2 < y)]
          refine iteT ?_
          have := q H4 (sL.trans s24)
          rw [bad (decide_eq_false cy)] at this
          exact this
    · rintro σ H3 ⟨⟨v4, v5, rfl⟩, s3, hf⟩
      rw [encB_len, List.take_length] at hf
      have := q H3 (sL.trans s3)
      rw [hf] at this
      exact this
end
end K42

set_option Elab.async false
set_option linter.all false
set_option maxRecDepth 100000
set_option maxHeartbeats 4000000
namespace K42
open PySem PySem.Spec PyProof.Rows L2 He Ov
def msAt (ms : List Bs) (i : Nat) : Bs := ms.getD i []
def fstB (m : Bs) (ks : List IK) : Bool := ks.all fun k => match valB m k with
  | some x => decide (x ≤ 1)
  | none => false
def endOk (W : Nat) (il : Bool) (e : IK × Int) : Bool := decide (e.1.2 = (W : Int) - 1) || !il
def lastB (W : Nat) (il : Bool) (goal : Int) (m : Bs) : Bool := (m.filter (endOk W il)).all fun e => decide (goal ≤ e.2)
def folAt (ws : List Str) (W : Nat) (z : Str) (ms : List Bs) (i : Nat) : Bool := folB (msAt ms i) (stepG (fun k => minO (some1 W (msAt ms (i - 1)) k)) (agr ws (sgn z i)))
/-- whether a table shows a number -/
def showB (ws : List Str) (W : Nat) (il : Bool) (z : Str) (goal : Int) (ms : List Bs) : Bool :=
  fstB (msAt ms 0) (fstK il (agr ws (sgn z 0))) && ((List.range (z.length - 1)).all (fun i => folAt ws W z ms (i + 1)) && lastB W il goal (msAt ms (z.length - 1)))
def spShows (K : PySem.W.Frag) : Sp := fun vs H Q _ => ∃ (b p : Addr) (ws : List Str) (W : Nat) (il : Bool) (z : Str) (goal : Int) (ms : List Bs), vs = [.ref b, .str z, .int goal, .ref p] ∧ BandAt K H b ws il ∧ WordsOk ws W ∧ MarkOk z ∧ TabIn H p ms ∧ ms.length = z.length ∧ (∀ i m, ms[i]? = some m → RowOk ws (sgn z i) m) ∧
  ∀ H', Same H H' → Q (.bl (showB ws W il z goal ms)) H'
theorem msAt_get {ms : List Bs} {i : Nat} {m : Bs} (h : ms[i]? = some m) : msAt ms i = m := by
  unfold msAt
  rw [List.getD_eq_getElem?_getD, h]; rfl
theorem atI_neg {xs : List V} {v : V} (h : xs[xs.length - 1]? = some v) : atI xs (-1) = some v := by
  have ne : xs ≠ [] := fun e => by subst e; cases h
  have e := List.dropLast_concat_getLast ne
  have g : xs.getLast ne = v := by
    rw [List.getLast_eq_getElem]
    exact (List.getElem?_eq_some_iff.mp h).2
  rw [← e, g]
  exact atI_last _ _
/-- dicts that are new since H0 -/
def DictsN (H0 H : Hp) (D : Addr) (ms : List Bs) : Prop := ∃ ds : List Addr, H D = some (.lst (ds.map V.ref)) ∧ Paired (fun m d => H d = some (.dT (encB m)) ∧ H0 d = none) ms ds
theorem DictsN.same {H0 H H' : Hp} {D : Addr} {ms : List Bs} (h : DictsN H0 H D ms) (s : Same H H') : DictsN H0 H' D ms := let ⟨ds, h1, h2⟩ := h; ⟨ds, s _ _ h1, paired_imp (fun _ _ e => ⟨s _ _ e.1, e.2⟩) h2⟩
theorem DictsN.get {H0 H : Hp} {D : Addr} {ms : List Bs} (h : DictsN H0 H D ms) {i : Nat} (hi : i < ms.length) : ∃ (xs : List V) (d : Addr), H D = some (.lst xs) ∧ xs.length = ms.length ∧ xs[i]? = some (.ref d) ∧ H d = some (.dT (encB (msAt ms i))) ∧ H0 d = none := by
  obtain ⟨ds, h1, h2⟩ := h
  have l := paired_len h2
  obtain ⟨d, hd⟩ : ∃ d, ds[i]? = some d := ⟨_, List.getElem?_eq_getElem (by omega)⟩
  obtain ⟨m, hm, a, b⟩ := paired_get h2 hd
  exact ⟨_, d, h1, by rw [List.length_map, l], by rw [List.getElem?_map, hd]; rfl, by rw [msAt_get hm]; exact a, b⟩
section
variable {P : Program} {w : World} {K : PySem.W.Frag} {mg : Str → Option Value} {base : Heap}
abbrev N_sh : List Str := ["band", "text", "number", "thing", "grid", "rows", "state", "cell", "row", "word", "offset", "bound"]
theorem sc_sh : FnScope N_sh ["band", "text", "number", "thing"] (defScope s_shows) := ⟨rfl, rfl, rfl, by decide +kernel, rfl, by decide +kernel, by decide +kernel⟩
theorem b_sh : BindsX "shows" "shows" s_shows ["band", "text", "number", "thing"] := fun _ _ _ _ _ _ us hl => match us, hl with | [_, _, _, _], _ => rfl
theorem ok_sh (T : Txt K mg) : CallC P w K mg base CX0 5 "shows" ["band", "text", "number", "thing"] (spShows K) := by
  refine ⟨kept_of T.f_shows sc_sh b_sh (fun vs H Q E h => ?_) (fun cdv A outer s H vs Q E hr h => ?_), T.g_shows, keep T.f_shows⟩
  · obtain ⟨b, p, ws, W, il, z, goal, ms, rfl, _⟩ := h
    rfl
  · obtain ⟨b, p, ws, W, il, z, goal, ms, rfl, hb, ok, hz, hp, lms, oks, q⟩ := h
    have hu := hu_of hr
    refine ⟨_, pss_cons (ps_expr (pe_callC (ok_need T) (hr.mono (by decide)) (by rfl) pass0 (pa_cons (pv 1) pa_nil)))
      (pss_cons (ps_set (i := 4) sc_sh.nd rfl (.inr rfl) (pe_makeC (ok_gi T) hr (by rfl) pass0 (pa_cons (pv 0) (pa_cons (pv 1) pa_nil))))
      (pss_cons (ps_if (pt_not (pt_val (pe_callC (ok_it T) (hr.mono (by decide)) (by rfl) pass0 (pa_cons (pv 4) (pa_cons (pv 3) pa_nil))))) (pss_one ps_never) pss_nil)
      (pss_cons (ps_set (i := 5) sc_sh.nd rfl (.inr rfl) (pe_lc (own := [("row", 8)]) rfl sc_sh.nd (pi_list (pv 3)) (blkOk_by (N := N_sh) (sc := defScope s_shows) (by decide +kernel)) (fun _ _ _ _ _ => pg_name (i := 8) sc_sh.nd rfl (.inl rfl)) (fun _ _ _ _ _ => pts_nil)
          (fun _ _ _ _ _ => pe_callC (ok_bn T) (hr.mono (by decide)) (by rfl) pass0 (pa_cons (pv 8) pa_nil))))
      (pss_cons (ps_for PassesOwn.never rfl (pi_list (pe_methC0 (pv 4) T.cl_Grid (ok_fo T) (hr.mono (by decide)) pass0)) (pg_name (i := 6) sc_sh.nd rfl (.inl rfl))
        (pss_one (ps_if (PW.pt (pw_or (pt_cmp (pc_dnotin hu (pv 6) (pe_ix ix_list (pv 5) pe_int (fun _ _ => rfl)))) (pw_or1 (pt_cmpR op_gt (pe_dget hu (pe_ix ix_list (pv 5) pe_int (fun _ _ => rfl)) (pv 6) (fun _ _ => rfl)) pe_int (nomark _))))) (pss_one (ps_ret pe_bl)) pss_nil)))
      (pss_cons (ps_if (pt_not (pt_val (pe_callB (cr_all rfl) (by rfl) T.z_all (by decide +kernel) (pa_cons (pe_lc (own := [("cell", 7)]) (te := tCall (spFol K) [] E0 (tCons (tVar 4) (tCons (tVar 7) (tCons (tOp (rIxL K) (tVar 5) (tOp (rI0 fun i j => .int (i - j)) (tVar 7) (tC (.int 1)))) (tCons (tOp (rIxL K) (tVar 5) (tVar 7)) tNil))))) rfl sc_sh.nd
          (pi_range2 (by rfl) T.z_range (pa_cons pe_int (pa_cons (pe_callB call_len_seq (by rfl) T.z_len PySem.boot_len (pa_cons (pv 5) pa_nil)) pa_nil))) (blkOk_by (N := N_sh) (sc := defScope s_shows) (by decide +kernel)) (fun _ _ _ _ _ => pg_name (i := 7) sc_sh.nd rfl (.inl rfl)) (fun _ _ _ _ _ => pts_nil)
          (fun _ _ _ _ _ => pe_callC (ok_fl T) (hr.mono (by decide)) (by rfl) pass0 (pa_cons (pv 4) (pa_cons (pv 7) (pa_cons (pe_ix ix_list (pv 5) (pe_op op_sub (pv 7) pe_int) (fun _ _ => rfl)) (pa_cons (pe_ix ix_list (pv 5) (pv 7) (fun _ _ => rfl)) pa_nil)))))) pa_nil)))) (pss_one (ps_ret pe_bl)) pss_nil)
      (pss_one (ps_ret (pe_callB (cr_all rfl) (by rfl) T.z_all (by decide +kernel) (pa_cons (pe_lc (own := [("word", 9), ("offset", 10), ("bound", 11)]) (g := gTup K 2 (gCons (gTup K 2 (gCons (gName 9) (gCons (gName 10) gNil))) (gCons (gName 11) gNil))) (tt := tB (tMeth (ga K "Grid") "can_end" (spCan K) [] E0 (tVar 4) (tCons (tVar 10) tNil))) rfl sc_sh.nd
          (pi_itemsT (pe_lk (pe_ix ix_list (pv 5) (pe_un un_neg pe_int) (fun _ _ => rfl)))) (blkOk_by (N := N_sh) (sc := defScope s_shows) (by decide +kernel))
          (fun _ _ _ _ _ => pg_tup rfl (pgs_cons (pg_tup rfl (pgs_cons (pg_name (i := 9) sc_sh.nd rfl (.inl rfl)) (pgs_cons (pg_name (i := 10) sc_sh.nd rfl (.inl rfl)) pgs_nil))) (pgs_cons (pg_name (i := 11) sc_sh.nd rfl (.inl rfl)) pgs_nil)))
          (fun _ _ _ _ _ => pts_one (pt_val (pe_methC (pv 4) T.cl_Grid (ok_ce T) (hr.mono (by decide)) pass0 (pa_cons (pv 10) pa_nil)))) (fun _ _ _ _ _ => pe_cmpR op_ge (pv 11) (pv 2) (nomark _))) pa_nil))))))))), ?_⟩
    obtain ⟨z1, z2, z3⟩ := id hz
    have z0 := sgn_at (z := z) (i := 0) z1
    refine ⟨_, rfl, z, rfl, hz, fun H1 s1 => ⟨_, rfl, _, rfl, fun x dx nx ndx nex => ?_⟩⟩
    have sx : Same H1 (upd (upd H1 dx (.own x)) x (.ins (ga K "Grid") dx [])) := Same.put (same_upd ndx) nx
    refine ⟨x, dx, b, ws, W, il, z, rfl, upd_same, (hb.same s1).same sx, ok, fun H2 s2 hg => ⟨rfl, ?_⟩⟩
    have s02 : Same H H2 := s1.trans (SameBut.same sx nx s2)
    refine ⟨_, rfl, _, rfl, x, p, ws, W, il, z, ms, rfl, hg, ok, by omega, hp.same s02, lms, oks, fun H3 s3 => ⟨true, rfl, iteF ?_⟩⟩
    have s03 := s02.trans s3
    have hg3 := hg.same s3
    obtain ⟨rs, hp3, hrs⟩ := hp.same s03
    refine ⟨_, rfl, p, rfl, ⟨_, SqL.of hp3⟩, fun D nD => ?_⟩
    refine lc_list (K := K) (a := p) (xs := rs.map V.ref) (fun n H' => Same H3 H' ∧ DictsN H3 H' D (ms.take n)) ⟨same_upd nD, [], upd_same, .nil⟩ (fun _ _ _ h => SqL.of (h.1 _ _ hp3)) ?_ ?_
    · rintro n x1 H4 hx ⟨s4, ds, hD, hds⟩
      rw [List.getElem?_map] at hx
      obtain ⟨r, hr1, rfl⟩ := Option.map_eq_some_iff.mp hx
      obtain ⟨m, hm, hrow⟩ := paired_get hrs hr1
      have rok := oks n m hm
      have tkm : ms.take (n + 1) = ms.take n ++ [m] := by rw [List.take_add_one, hm]; rfl
      have nl := (List.getElem?_eq_some_iff.mp hm).1
      refine ⟨rfl, lcY ⟨_, rfl, r, m, rfl, hrow.same s4, rok.nd, Nat.le_trans rok.len (by decide), fun H5 d s5 nd hd => ⟨_, s5 _ _ hD, ?_, Same.put (s4.trans s5) nD, ds ++ [d], ?_, ?_⟩⟩⟩
      · rw [List.length_map, paired_len hds, List.length_take]
        exact small1000 (by omega)
      · rw [upd_same, List.map_append]; rfl
      · rw [tkm]
        have dl : ∀ (d' : Addr) (kv : List (List Key × V)), H5 d' = some (.dT kv) → ∀ o, upd H5 D o d' = some (.dT kv) := fun d' kv e o => by rw [upd_ne (ne_of e (s5 _ _ hD) (by intro z; cases z))]; exact e
        exact paired_snoc ⟨dl _ _ hd _, s4.free nd⟩ (paired_imp (fun _ _ e => ⟨dl _ _ (s5 _ _ e.1) _, e.2⟩) hds)
    · rintro H4 ⟨s4, hDs⟩
      rw [List.length_map, paired_len hrs, List.take_length] at hDs
      have s04 := s03.trans s4
      have hg4 := hg3.same s4
      obtain ⟨dxg, lg, hg1, hgl⟩ := id hg4
      refine ⟨_, rfl, x, dxg, _, rfl, hg1, rfl, x, ws, W, il, z, _, rfl, hg4, ok, by omega, z0, fun H5 pa s5 npa ⟨qs, ha, hk⟩ => ⟨pa, rfl, ⟨_, SqL.of ha⟩, ?_⟩⟩
      generalize hks : fstK il (agr ws (sgn z 0)) = ks at hk
      have s05 := s04.trans s5
      have hq : showB ws W il z goal ms = (fstB (msAt ms 0) ks && ((List.range (z.length - 1)).all (fun i => folAt ws W z ms (i + 1)) && lastB W il goal (msAt ms (z.length - 1)))) := by unfold showB; rw [hks]
      rw [hq] at q
      clear hq
      refine for_list (K := K) (a := pa) (xs := qs.map V.ref) (fun n σ H' => (∃ v6, σ = [some (.ref b), some (.str z), some (.int goal), some (.ref p), some (.ref x), some (.ref D), v6, none, none, none, none, none]) ∧ Same H5 H' ∧ fstB (msAt ms 0) (ks.take n) = true) ⟨⟨_, rfl⟩, .refl _, rfl⟩ (fun n σ H' _ h => SqL.of (h.2.1 _ _ ha)) ?_ ?_
      · rintro n x1 σ H6 hx ⟨⟨v6, rfl⟩, s6, hf⟩
        rw [List.getElem?_map] at hx
        obtain ⟨qa, hqa, rfl⟩ := Option.map_eq_some_iff.mp hx
        obtain ⟨k, hk3, hqt⟩ := keys_get hk hqa
        have ht := s6 _ _ hqt
        have tk : ks.take (n + 1) = ks.take n ++ [k] := by rw [List.take_add_one, hk3]; rfl
        obtain ⟨xs, d0, hD6, lxs, hx0, hd0, _⟩ := (hDs.same (s5.trans s6)).get (i := 0) (by omega)
        have g1 := dget_B (k := k) hd0 ht
        have bad : (match valB (msAt ms 0) k with | some x => decide (x ≤ 1) | none => false) = false → fstB (msAt ms 0) ks = false := fun h => by
          unfold fstB
          rw [← Bool.not_eq_true, List.all_eq_true]
          intro hall
          have := hall k (List.mem_of_getElem? hk3)
          rw [h] at this
          cases this
        refine ⟨_, rfl, _, rfl, D, _, _, _, rfl, rfl, SqL.of hD6, atI_nat (j := 0) hx0, d0, _, rfl, g1, _, rfl, ?_⟩
        cases hv : valB (msAt ms 0) k with
        | none =>
          rw [hv] at bad
          refine iteT (iteT ?_)
          have := q H6 (s05.trans s6)
          rw [bad rfl] at this
          exact this
        | some y =>
          rw [hv] at g1 bad
          refine iteF ⟨_, rfl, D, _, _, _, rfl, rfl, SqL.of hD6, atI_nat (j := 0) hx0, _, rfl, d0, V.int y, rfl, g1, _, _, rfl, rfl, _, rfl, ?_⟩
          by_cases cy : y ≤ 1
          · rw [decide_eq_false (by omega)]
            refine iteF ⟨⟨_, rfl⟩, s6, ?_⟩
            rw [tk]
            unfold fstB at *
            rw [List.all_append, hf, List.all_cons, hv]
            simp [cy]
          · rw [decide_eq_true (by omega : (1 : Int) < y)]
            refine iteT ?_
            have := q H6 (s05.trans s6)
            rw [bad (decide_eq_false cy)] at this
            exact this
      · rintro σ H6 ⟨⟨v6, rfl⟩, s6, hf⟩
        rw [List.length_map, keys_len hk, List.take_length] at hf
        rw [hf, Bool.true_and] at q
        have s06 := s05.trans s6
        have hg6 := (hg4.same s5).same s6
        have hDs6 := hDs.same (s5.trans s6)
        obtain ⟨xs, d0, hD6, lxs, hx0, hd0, _⟩ := hDs6.get (i := 0) (by omega)
        refine ⟨_, rfl, D, _, rfl, .inl (SqL.of hD6), _, _, rfl, ⟨by omega, by omega, by omega, by omega⟩, fun E0 nE => ?_⟩
        have elen : ((xs.length : Int) - 1).toNat = z.length - 1 := by omega
        rw [elen]
        refine lc_range (lo := 1) (n := z.length - 1) (fun i H' => Same H6 H' ∧ H' E0 = some (.lst (((List.range i).map fun i => folAt ws W z ms (i + 1)).map V.bl))) ⟨same_upd nE, upd_same⟩ ?_ ?_
        · rintro i H7 hi ⟨s7, hE⟩
          have e1 : (1 : Int) + (i : Int) = ((i + 1 : Nat) : Int) := by omega
          rw [e1]
          have hDs7 := hDs6.same s7
          obtain ⟨xs1, d1, hD7, lx1, hx1, hd1, _⟩ := hDs7.get (i := i) (by omega)
          obtain ⟨xs2, d2, hD7', lx2, hx2, hd2, _⟩ := hDs7.get (i := i + 1) (by omega)
          have lm1 : (msAt ms i).length ≤ 36 := by
            obtain ⟨m, hm⟩ : ∃ m, ms[i]? = some m := ⟨_, List.getElem?_eq_getElem (by omega)⟩
            rw [msAt_get hm]
            exact (oks i m hm).len
          refine ⟨rfl, lcY ⟨_, rfl, _, rfl, _, rfl, _, rfl, _, _, rfl, rfl, D, _, _, V.ref d1, rfl, rfl, SqL.of hD7, ?_, _, rfl, _, rfl, D, _, _, V.ref d2, rfl, rfl, SqL.of hD7', atI_nat hx2, x, d1, d2, ws, W, il, z, i + 1, _, _, _, rfl, hg6.same s7, ok, by omega, sgn_at (by omega), hd1, lm1, hd2, fun H8 s8 => ⟨_, s8 _ _ hE, ?_, Same.put (s7.trans s8) nE, ?_⟩⟩⟩
          · rw [show ((i + 1 : Nat) : Int) - 1 = (i : Int) by omega]
            exact atI_nat hx1
          · rw [List.length_map, List.length_map, List.length_range]
            exact small1000 (by omega)
          · rw [upd_same, List.range_succ, List.map_append, List.map_append]; rfl
        · rintro H7 ⟨s7, hE⟩
          have ea : (((List.range (z.length - 1)).map fun i => folAt ws W z ms (i + 1)).all id) = (List.range (z.length - 1)).all (fun i => folAt ws W z ms (i + 1)) := by rw [List.all_map]; rfl
          refine ⟨_, _, rfl, SqL.of hE, _, rfl, ?_⟩
          rw [ea]
          have s07 := s06.trans s7
          cases hall : (List.range (z.length - 1)).all (fun i => folAt ws W z ms (i + 1)) with
          | false =>
            rw [hall] at q
            exact iteT (q H7 s07)
          | true =>
            rw [hall, Bool.true_and] at q
            refine iteF ?_
            have hg7 := hg6.same s7
            have hDs7 := hDs6.same s7
            obtain ⟨xs, dl, hD7, lxs, hxl, hdl, ndl⟩ := hDs7.get (i := z.length - 1) (by omega)
            have ndlH : H dl = none := s03.free ndl
            have lml : (msAt ms (z.length - 1)).length ≤ 36 := by
              obtain ⟨m, hm⟩ : ∃ m, ms[z.length - 1]? = some m := ⟨_, List.getElem?_eq_getElem (by omega)⟩
              rw [msAt_get hm]
              exact (oks _ m hm).len
            generalize msAt ms (z.length - 1) = ml at hdl q lml
            refine ⟨_, rfl, _, rfl, D, _, _, _, rfl, rfl, SqL.of hD7, atI_neg (by rw [lxs, lms]; exact hxl), dl, _, rfl, hdl, trivial, fun od => ⟨dl, od, _, rfl, upd_same, fun E1 nE1 => ?_⟩⟩
            have lk : upd H7 dl (.frz od (.dT (encB ml))) dl = some (.frz od (.dT (encB ml))) := upd_same
            have xdl : x ≠ dl := by
              obtain ⟨_, _, h, _⟩ := id hg3
              exact ne_of_none h ndl
            have hgL : GridAt K (upd H7 dl (.frz od (.dT (encB ml)))) x ws W il z := by
              obtain ⟨da, la, h1, h2⟩ := id hg7
              obtain ⟨da3, la3, h13, h23⟩ := id hg3
              exact ⟨da, la, by rw [upd_ne xdl]; exact h1, by rw [upd_ne (ne_of h2 hdl (by intro z; cases z))]; exact h2⟩
            have sHL : Same H (upd H7 dl (.frz od (.dT (encB ml)))) := SameBut.same s07 ndlH .upd
            generalize upd H7 dl (.frz od (.dT (encB ml))) = HL at lk hgL sHL nE1
            refine lc_it walk_itemsT (fun n H' => Same HL H' ∧ ∃ acc : List Bool, H' E1 = some (.lst (acc.map V.bl)) ∧ acc.length ≤ n ∧ acc.all id = lastB W il goal (ml.take n)) ⟨same_upd nE1, [], upd_same, Nat.le_refl _, rfl⟩ (fun _ _ _ h => h.1 _ _ lk) ?_ ?_
            · rintro n x1 H8 H9 hn ⟨s8, acc, hE8, lacc, hacc⟩ ⟨T0, kk, v, qa, hkv, hqa, rfl, nT, rfl⟩
              obtain ⟨e, he, rfl, rfl⟩ := encB_get hkv
              have s89 := same_upd (o := .tup [V.ref qa, V.int e.2]) nT
              have hT := upd_same (H := H8) (a := T0) (o := .tup [V.ref qa, V.int e.2])
              have hq9 : upd H8 T0 (.tup [V.ref qa, V.int e.2]) qa = some (.tup [.int e.1.1, .int e.1.2]) := s89 _ _ hqa
              have s9 := s8.trans s89
              have hE9 := s89 _ _ hE8
              clear s89
              generalize upd H8 T0 (.tup [V.ref qa, V.int e.2]) = H9 at hT hq9 s9 hE9
              have tk : ml.take (n + 1) = ml.take n ++ [e] := by rw [List.take_add_one, he]; rfl
              obtain ⟨da, la, hgx, _⟩ := id (hgL.same s9)
              refine ⟨T0, _, rfl, SqT.of hT, rfl, _, _, rfl, ⟨qa, _, rfl, SqT.of hq9, rfl, _, _, rfl, _, _, rfl, rfl, _, _, rfl, rfl, rfl, ?_⟩⟩
              refine ⟨_, rfl, x, da, _, rfl, hgx, rfl, _, rfl, x, ws, W, il, z, e.1.2, rfl, hgL.same s9, _, rfl, ?_⟩
              cases hend : (decide (e.1.2 = (W : Int) - 1) || !il) with
              | true =>
                refine iteT ⟨_, rfl, _, rfl, _, _, rfl, rfl, _, hE9, ?_, Same.put s9 nE1, acc ++ [decide (goal ≤ e.2)], ?_, ?_, ?_⟩
                · rw [List.length_map]
                  have : n < ml.length := by rw [encB_len] at hn; exact hn
                  exact small1000 (by omega)
                · rw [upd_same, List.map_append]; rfl
                · rw [List.length_append, List.length_singleton]; omega
                · rw [List.all_append, hacc, tk]
                  unfold lastB
                  rw [List.filter_append, List.filter_cons_of_pos (show endOk W il e = true from hend), List.all_append]
                  simp
              | false =>
                refine iteF ⟨s9, acc, hE9, by omega, ?_⟩
                rw [hacc, tk]
                unfold lastB
                rw [List.filter_append, List.filter_cons_of_neg (show ¬ endOk W il e = true by unfold endOk; rw [hend]; simp)]
                simp
            · rintro H8 ⟨s8, acc, hE8, lacc, hacc⟩
              rw [encB_len, List.take_length] at hacc
              refine ⟨_, acc, rfl, SqL.of hE8, ?_⟩
              rw [hacc]
              exact q H8 (sHL.trans s8)
end
end K42

set_option Elab.async false
set_option linter.all false
set_option maxRecDepth 100000
set_option maxHeartbeats 4000000
namespace K42
open PySem PySem.Spec PyProof.Rows L2 He Ov
/-! ### the table of the least numbers shows the least bound at its end -/
theorem folB_self {m : Bs} (nd : (m.map (·.1)).Nodup) : folB m m = true := by
  unfold folB
  rw [List.all_eq_true]
  intro e he
  rw [(valB_mem nd).mpr he]
  exact decide_eq_true (Int.le_refl _)
theorem msAt_tabs (il : Bool) (W : Nat) (ws : List Str) (z : Str) {n i : Nat} (h : i < n) : msAt (tabs il W ws z n) i = prev il W ws z i := by
  refine msAt_get ?_
  unfold tabs
  rw [List.getElem?_map, List.getElem?_range h]; rfl
theorem fstB_self {ws : List Str} {W : Nat} (ok : WordsOk ws W) (il : Bool) (z : Str) : fstB (prev il W ws z 0) (fstK il (agr ws (sgn z 0))) = true := by
  unfold fstB
  rw [List.all_eq_true]
  intro k hk
  have e : prev il W ws z 0 = (fstK il (agr ws (sgn z 0))).map (fun k => (k, (1 : Int))) := (first_eq il W _).symm
  have hm : (k, (1 : Int)) ∈ prev il W ws z 0 := by rw [e]; exact List.mem_map.mpr ⟨k, hk, rfl⟩
  rw [(valB_mem (prev_ok ok il z 0).nd).mpr hm]; rfl
theorem show_tabs {ws : List Str} {W : Nat} (ok : WordsOk ws W) (il : Bool) {z : Str} (hz : MarkOk z) (goal : Int) : showB ws W il z goal (tabs il W ws z z.length) = lastB W il goal (prev il W ws z (z.length - 1)) := by
  have z1 := hz.1
  unfold showB
  rw [msAt_tabs il W ws z (show 0 < z.length by omega), msAt_tabs il W ws z (show z.length - 1 < z.length by omega), fstB_self ok]
  have e : (List.range (z.length - 1)).all (fun i => folAt ws W z (tabs il W ws z z.length) (i + 1)) = true := by
    rw [List.all_eq_true]
    intro i hi
    have hi := List.mem_range.mp hi
    unfold folAt
    rw [Nat.add_sub_cancel, msAt_tabs il W ws z (show i + 1 < z.length by omega), msAt_tabs il W ws z (show i < z.length by omega), prev_next ok]
    exact folB_self (prev_ok ok il z (i + 1)).nd
  rw [e]; rfl
/-! all bounds one less -/
def lowM (m : Bs) : Bs := m.map fun e => (e.1, e.2 - 1)
theorem low_keys (m : Bs) : (lowM m).map (·.1) = m.map (·.1) := by unfold lowM; rw [List.map_map]; rfl
theorem valB_low (k : IK) : ∀ m : Bs, valB (lowM m) k = (valB m k).map (· - 1)
  | [] => rfl
  | e :: r => by
    have ih := valB_low k r
    unfold valB lowM at *
    rw [List.map_cons, List.find?_cons, List.find?_cons]
    by_cases c : e.1 = k
    · simp [c]
    · simp only [decide_eq_false c]
      exact ih
theorem minO_low : ∀ ns : List Int, minO (ns.map (· - 1)) = (minO ns).map (· - 1)
  | [] => rfl
  | x :: r => by
    have ih := minO_low r
    rw [List.map_cons]
    unfold minO
    rw [ih]
    cases minO r with
    | none => rfl
    | some y =>
      show some (if x - 1 ≤ y - 1 then x - 1 else y - 1) = some ((if x ≤ y then x else y) - 1)
      by_cases c : x ≤ y
      · rw [if_pos c, if_pos (by omega)]
      · rw [if_neg c, if_neg (by omega)]
theorem some1_low (W : Nat) (m : Bs) (k : IK) : some1 W (lowM m) k = (some1 W m k).map (· - 1) := by
  unfold some1 before1
  rw [List.map_append, valB_low]
  congr 1
  · cases valB m (k.1, k.2 - 1) <;> rfl
  · have e1 : (lowM m).map (·.2) = (m.map (·.2)).map (· - 1) := by unfold lowM; rw [List.map_map, List.map_map]; rfl
    have e2 : endB W (lowM m) = (endB W m).map (· - 1) := by
      unfold endB lowM
      rw [List.filter_map, List.map_map, List.map_map]; rfl
    have e3 : ∀ l : List Int, (l.map (· - 1)).map (· + 1) = (l.map (· + 1)).map (· - 1) := fun l => by
      rw [List.map_map, List.map_map]
      refine List.map_congr_left fun x _ => ?_
      show x - 1 + 1 = x + 1 - 1
      omega
    by_cases c : k.2 = 0
    · rw [if_pos c, if_pos c, e1, e3]
    · rw [if_neg c, if_neg c, e2, e3]
theorem step_low (W : Nat) (m : Bs) (ks : List IK) : stepG (fun k => minO (some1 W (lowM m) k)) ks = lowM (stepG (fun k => minO (some1 W m k)) ks) := by
  induction ks with
  | nil => rfl
  | cons k r ih =>
    have e : minO (some1 W (lowM m) k) = (minO (some1 W m k)).map (· - 1) := by rw [some1_low, minO_low]
    cases h : minO (some1 W m k) with
    | none =>
      rw [h] at e
      rw [stepG_none (f := fun k => minO (some1 W m k)) h, stepG_none (f := fun k => minO (some1 W (lowM m) k)) e, ih]
    | some b =>
      rw [h] at e
      rw [stepG_some (f := fun k => minO (some1 W m k)) h, stepG_some (f := fun k => minO (some1 W (lowM m) k)) e, ih]
      rfl
theorem msAt_map {f : Bs → Bs} {ms : List Bs} {i : Nat} (h : i < ms.length) : msAt (ms.map f) i = f (msAt ms i) := by
  obtain ⟨m, hm⟩ : ∃ m, ms[i]? = some m := ⟨_, List.getElem?_eq_getElem h⟩
  rw [msAt_get hm]
  exact msAt_get (by rw [List.getElem?_map, hm]; rfl)
theorem show_low {ws : List Str} {W : Nat} (ok : WordsOk ws W) (il : Bool) {z : Str} (hz : MarkOk z) (goal : Int) : showB ws W il z goal ((tabs il W ws z z.length).map lowM) = lastB W il goal (lowM (prev il W ws z (z.length - 1))) := by
  have z1 := hz.1
  have l := tabs_len il W ws z z.length
  unfold showB
  rw [msAt_map (by omega), msAt_map (by omega), msAt_tabs il W ws z (show 0 < z.length by omega), msAt_tabs il W ws z (show z.length - 1 < z.length by omega)]
  have f0 : fstB (lowM (prev il W ws z 0)) (fstK il (agr ws (sgn z 0))) = true := by
    have h := fstB_self ok il z
    unfold fstB at *
    rw [List.all_eq_true] at *
    intro k hk
    have := h k hk
    rw [valB_low]
    cases hv : valB (prev il W ws z 0) k with
    | none => rw [hv] at this; cases this
    | some x =>
      rw [hv] at this
      have := of_decide_eq_true this
      exact decide_eq_true (by show x - 1 ≤ 1; omega)
  have e : (List.range (z.length - 1)).all (fun i => folAt ws W z ((tabs il W ws z z.length).map lowM) (i + 1)) = true := by
    rw [List.all_eq_true]
    intro i hi
    have hi := List.mem_range.mp hi
    unfold folAt
    rw [Nat.add_sub_cancel, msAt_map (by omega), msAt_map (by omega), msAt_tabs il W ws z (show i + 1 < z.length by omega), msAt_tabs il W ws z (show i < z.length by omega), step_low, prev_next ok]
    exact folB_self (by rw [low_keys]; exact (prev_ok ok il z (i + 1)).nd)
  rw [f0, e]; rfl
/-! ends -/
def endsV (W : Nat) (il : Bool) (m : Bs) : List Int := (m.filter (endOk W il)).map (·.2)
theorem lastB_ends (W : Nat) (il : Bool) (goal : Int) (m : Bs) : lastB W il goal m = (endsV W il m).all fun x => decide (goal ≤ x) := by
  unfold lastB endsV
  rw [List.all_map]; rfl
theorem ends_low (W : Nat) (il : Bool) (m : Bs) : endsV W il (lowM m) = (endsV W il m).map (· - 1) := by
  unfold endsV lowM
  rw [List.filter_map, List.map_map, List.map_map]; rfl
theorem last_le {W : Nat} {il : Bool} {m : Bs} {goal least : Int} (h1 : least ∈ endsV W il m) (h2 : ∀ x ∈ endsV W il m, least ≤ x) : lastB W il goal m = decide (goal ≤ least) := by
  rw [lastB_ends]
  by_cases c : goal ≤ least
  · rw [decide_eq_true c, List.all_eq_true]
    exact fun x hx => decide_eq_true (Int.le_trans c (h2 x hx))
  · rw [decide_eq_false c, ← Bool.not_eq_true, List.all_eq_true]
    exact fun h => c (of_decide_eq_true (h least h1))
theorem last_low {W : Nat} {il : Bool} {m : Bs} {goal least : Int} (h1 : least ∈ endsV W il m) (h2 : ∀ x ∈ endsV W il m, least ≤ x) : lastB W il goal (lowM m) = decide (goal ≤ least - 1) := by
  refine last_le (by rw [ends_low]; exact List.mem_map.mpr ⟨least, h1, rfl⟩) fun x hx => ?_
  rw [ends_low] at hx
  obtain ⟨y, hy, rfl⟩ := List.mem_map.mp hx
  have := h2 y hy
  omega
theorem last_nil {W : Nat} {il : Bool} {m : Bs} {goal : Int} (h : endsV W il m = []) : lastB W il goal m = true := by
  rw [lastB_ends, h]; rfl
theorem prev_pos (il : Bool) (W : Nat) (ws : List Str) (z : Str) : ∀ i, ∀ e ∈ prev il W ws z i, 1 ≤ e.2
  | 0, e, h => by
    obtain ⟨_, h2⟩ := stepG_mem (show e ∈ stepG _ _ from h)
    obtain ⟨h3, _⟩ := minO_some h2
    unfold some2 at h3
    rcases List.mem_append.mp h3 with q | q
    · split at q
      · rw [List.mem_singleton.mp q]; decide
      · cases q
    · simp at q
  | i + 1, e, h => by
    obtain ⟨_, h2⟩ := stepG_mem (show e ∈ stepG _ _ from h)
    obtain ⟨h3, _⟩ := minO_some h2
    unfold some2 at h3
    rcases List.mem_append.mp h3 with q | q
    · rw [if_neg (by omega)] at q
      cases q
    · obtain ⟨e', he', q⟩ := List.mem_flatMap.mp q
      have a := prev_pos il W ws z i e' he'
      unfold one2 at q
      rcases List.mem_append.mp q with q | q
      · split at q
        · rw [List.mem_singleton.mp q]; exact a
        · cases q
      · split at q
        · rw [List.mem_singleton.mp q]; omega
        · cases q
/-! a table with one row changed -/
def chg (ms : List Bs) (at_ : Nat) (m : Bs) : List Bs := ms.take at_ ++ [m] ++ ms.drop (at_ + 1)
theorem chg_len {ms : List Bs} {at_ : Nat} {m : Bs} (h : at_ < ms.length) : (chg ms at_ m).length = ms.length := by
  unfold chg
  simp only [List.length_append, List.length_take, List.length_drop, List.length_singleton]
  omega
theorem chg_at {ms : List Bs} {at_ : Nat} {m : Bs} (h : at_ < ms.length) : (chg ms at_ m)[at_]? = some m := by
  unfold chg
  rw [List.getElem?_append_left (by simp; omega), List.getElem?_append_right (by simp; omega)]
  simp [Nat.min_eq_left (Nat.le_of_lt h)]
theorem chg_ne {ms : List Bs} {at_ i : Nat} {m : Bs} (h : at_ < ms.length) (ne : i ≠ at_) : (chg ms at_ m)[i]? = ms[i]? := by
  unfold chg
  rcases Nat.lt_or_gt_of_ne ne with c | c
  · rw [List.append_assoc, List.getElem?_append_left (by simp; omega), List.getElem?_take_of_lt c]
  · rw [List.getElem?_append_right (by simp; omega), List.getElem?_drop]
    congr 1
    simp
    omega
/-- m' has for one of the states of m no bound, or a greater one -/
def Worse (m m' : Bs) : Prop := ∃ e ∈ m, ∀ x, valB m' e.1 = some x → e.2 < x
theorem folB_worse {m m' : Bs} (h : Worse m m') : folB m' m = false := by
  obtain ⟨e, he, hx⟩ := h
  unfold folB
  rw [← Bool.not_eq_true, List.all_eq_true]
  intro hall
  have := hall e he
  cases hv : valB m' e.1 with
  | none => rw [hv] at this; cases this
  | some x =>
    rw [hv] at this
    have h1 := of_decide_eq_true this
    have h2 := hx x hv
    omega
theorem show_worse {ws : List Str} {W : Nat} (ok : WordsOk ws W) (il : Bool) {z : Str} (hz : MarkOk z) (goal : Int) {at_ : Nat} (ha : at_ < z.length) {m' : Bs} (hw : Worse (prev il W ws z at_) m') : showB ws W il z goal (chg (tabs il W ws z z.length) at_ m') = false := by
  have l := tabs_len il W ws z z.length
  unfold showB
  cases at_ with
  | zero =>
    rw [msAt_get (chg_at (by omega))]
    have f : fstB m' (fstK il (agr ws (sgn z 0))) = false := by
      obtain ⟨e, he, hx⟩ := hw
      have e1 : prev il W ws z 0 = (fstK il (agr ws (sgn z 0))).map (fun k => (k, (1 : Int))) := (first_eq il W _).symm
      rw [e1] at he
      obtain ⟨k, hk, rfl⟩ := List.mem_map.mp he
      unfold fstB
      rw [← Bool.not_eq_true, List.all_eq_true]
      intro hall
      have := hall k hk
      cases hv : valB m' k with
      | none => rw [hv] at this; cases this
      | some x =>
        rw [hv] at this
        have h1 := of_decide_eq_true this
        have h2 : (1 : Int) < x := hx x hv
        omega
    rw [f]; rfl
  | succ i =>
    have e : (List.range (z.length - 1)).all (fun i => folAt ws W z (chg (tabs il W ws z z.length) (i + 1) m') (i + 1)) = (List.range (z.length - 1)).all (fun i => folAt ws W z (chg (tabs il W ws z z.length) (i + 1) m') (i + 1)) := rfl
    have f : (List.range (z.length - 1)).all (fun j => folAt ws W z (chg (tabs il W ws z z.length) (i + 1) m') (j + 1)) = false := by
      rw [← Bool.not_eq_true, List.all_eq_true]
      intro hall
      have := hall i (List.mem_range.mpr (by omega))
      unfold folAt at this
      have hi : msAt (chg (tabs il W ws z z.length) (i + 1) m') i = prev il W ws z i := by
        refine msAt_get ?_
        rw [chg_ne (by omega) (by omega)]
        unfold tabs
        rw [List.getElem?_map, List.getElem?_range (by omega)]; rfl
      rw [Nat.add_sub_cancel, msAt_get (chg_at (by omega)), hi, prev_next ok, folB_worse hw] at this
      cases this
    rw [f, Bool.false_and, Bool.and_false]
theorem rowOk_prev {ws : List Str} {W : Nat} (ok : WordsOk ws W) (il : Bool) (z : Str) (i : Nat) : RowOk ws (sgn z i) (prev il W ws z i) :=
  ⟨fun e he => (prev_keys il W ws z i).subset (List.mem_map.mpr ⟨e, he, rfl⟩), (prev_ok ok il z i).pw, (prev_ok ok il z i).len⟩
theorem rowOk_tabs {ws : List Str} {W : Nat} (ok : WordsOk ws W) (il : Bool) (z : Str) (n : Nat) : ∀ i m, (tabs il W ws z n)[i]? = some m → RowOk ws (sgn z i) m := fun i m h => by
  have hi := (List.getElem?_eq_some_iff.mp h).1
  rw [tabs_len] at hi
  have e := msAt_tabs il W ws z hi
  rw [msAt_get h] at e
  rw [e]
  exact rowOk_prev ok il z i
/-- of the states of m, in their order -/
theorem rowOk_sub {ws : List Str} {c : Nat} {m m' : Bs} (h : RowOk ws c m) (s : (m'.map (·.1)).Sublist (m.map (·.1))) : RowOk ws c m' := by
  refine ⟨fun e he => ?_, List.Pairwise.sublist s h.pw, ?_⟩
  · obtain ⟨e', he', q⟩ := List.mem_map.mp (s.subset (List.mem_map.mpr ⟨e, he, rfl⟩))
    exact q ▸ h.mem e' he'
  · have l := s.length_le
    rw [List.length_map, List.length_map] at l
    exact Nat.le_trans l h.len
def higher (m : Bs) (spot : Nat) (e : IK × Int) (d : Int) : Bs := m.take spot ++ [(e.1, e.2 + 1 + d)] ++ m.drop (spot + 1)
def removed (m : Bs) (spot : Nat) : Bs := m.take spot ++ m.drop (spot + 1)
theorem split_at {m : Bs} {spot : Nat} {e : IK × Int} (h : m[spot]? = some e) : m = m.take spot ++ [e] ++ m.drop (spot + 1) := by
  obtain ⟨h1, h2⟩ := List.getElem?_eq_some_iff.mp h
  have := List.take_append_drop spot m
  rw [List.drop_eq_getElem_cons h1, h2] at this
  simpa using this.symm
theorem higher_keys {m : Bs} {spot : Nat} {e : IK × Int} {d : Int} (h : m[spot]? = some e) : (higher m spot e d).map (·.1) = m.map (·.1) := by
  conv => rhs; rw [split_at h]
  unfold higher
  simp
theorem removed_keys {m : Bs} {spot : Nat} {e : IK × Int} (h : m[spot]? = some e) : ((removed m spot).map (·.1)).Sublist (m.map (·.1)) := by
  conv => rhs; rw [split_at h]
  unfold removed
  refine List.Sublist.map _ ?_
  rw [List.append_assoc]
  exact List.Sublist.append (List.Sublist.refl _) (List.sublist_cons_self e _)
theorem higher_worse {m : Bs} {spot : Nat} {e : IK × Int} {d : Int} (hd : 0 ≤ d) (nd : (m.map (·.1)).Nodup) (h : m[spot]? = some e) : Worse m (higher m spot e d) := by
  refine ⟨e, List.mem_of_getElem? h, fun x hx => ?_⟩
  have nd2 : ((higher m spot e d).map (·.1)).Nodup := by rw [higher_keys h]; exact nd
  have := (valB_mem nd2 (k := e.1) (x := e.2 + 1 + d)).mpr (by unfold higher; simp)
  rw [this] at hx
  have := Option.some.inj hx
  omega
theorem removed_worse {m : Bs} {spot : Nat} {e : IK × Int} (nd : (m.map (·.1)).Nodup) (h : m[spot]? = some e) : Worse m (removed m spot) := by
  refine ⟨e, List.mem_of_getElem? h, fun x hx => ?_⟩
  have ne : e.1 ∉ (removed m spot).map (·.1) := by
    rw [split_at h] at nd
    simp only [List.map_append, List.map_cons, List.map_nil] at nd
    intro hin
    unfold removed at hin
    rw [List.map_append] at hin
    rw [List.append_assoc, List.nodup_append] at nd
    obtain ⟨n1, n2, n3⟩ := nd
    rcases List.mem_append.mp hin with q | q
    · exact n3 _ q e.1 (by simp) rfl
    · rw [List.singleton_append, List.nodup_cons] at n2
      exact n2.1 q
  rw [valB_none ne] at hx
  cases hx
end K42

set_option Elab.async false
set_option linter.all false
set_option maxRecDepth 100000
set_option maxHeartbeats 4000000
namespace K42
open PySem PySem.Spec PyProof.Rows L2 He Ov
/-! ### what a draw leaves: all but a list of three ints -/
def NV (o : HO) : Prop := ∀ x y z : Int, o ≠ .lst [.int x, .int y, .int z]
def FV (H H' : Hp) : Prop := ∀ b o, NV o → H b = some o → H' b = some o
theorem FV.of {H H' : Hp} (s : Same H H') : FV H H' := fun b o _ h => s b o h
theorem FV.refl (H : Hp) : FV H H := fun _ _ _ h => h
theorem FV.trans {H H1 H2 : Hp} (a : FV H H1) (b : FV H1 H2) : FV H H2 := fun c o n h => b c o n (a c o n h)
theorem FV.draw {H H' : Hp} {v : Addr} {n : Nat} (hv : Vat H v n) (s : SameBut v H H') : FV H H' := fun b o nv h => by
  refine s b o (fun e => ?_) h
  obtain ⟨x, y, z, h1, _⟩ := hv
  subst e
  rw [h1] at h
  exact nv x y z (Option.some.inj h).symm
theorem nv_refs (rs : List Addr) : NV (.lst (rs.map V.ref)) := fun x y z e => by
  injection e with e
  cases rs with
  | nil => cases e
  | cons r rs => injection e with e _; cases e
theorem nv_strs (ss : List Str) : NV (.lst (ss.map V.str)) := fun x y z e => by
  injection e with e
  cases ss with
  | nil => cases e
  | cons r rs => injection e with e _; cases e
theorem nv_tup (xs : List V) : NV (.tup xs) := fun x y z e => by cases e
theorem nv_ins (C dx : Addr) (fs : List (Str × V)) : NV (.ins C dx fs) := fun x y z e => by cases e
theorem RowAt.fv {H H' : Hp} {r : Addr} {m : Bs} (h : RowAt H r m) (s : FV H H') : RowAt H' r m := let ⟨qs, h1, h2⟩ := h; ⟨qs, s _ _ (nv_refs _) h1, paired_imp (fun _ _ e => s _ _ (nv_tup _) e) h2⟩
theorem TabIn.fv {H H' : Hp} {p : Addr} {ms : List Bs} (h : TabIn H p ms) (s : FV H H') : TabIn H' p ms := let ⟨rs, h1, h2⟩ := h; ⟨rs, s _ _ (nv_refs _) h1, paired_imp (fun _ _ e => RowAt.fv e s) h2⟩
theorem StampsAt.fv {K : PySem.W.Frag} {H H' : Hp} {a : Addr} {ws : List Str} (h : StampsAt K H a ws) (s : FV H H') : StampsAt K H' a ws := let ⟨dx, l, h1, h2⟩ := h; ⟨dx, l, s _ _ (nv_ins _ _ _) h1, s _ _ (nv_strs _) h2⟩
theorem BandAt.fv {K : PySem.W.Frag} {H H' : Hp} {b : Addr} {ws : List Str} {il : Bool} (h : BandAt K H b ws il) (s : FV H H') : BandAt K H' b ws il :=
  let ⟨dx, t, l, W, h1, h2, h3⟩ := h.at_; ⟨dx, t, l, W, s _ _ (nv_ins _ _ _) h1, StampsAt.fv h2 s, s _ _ (nv_strs _) h3⟩
theorem dp_tabIn {K : PySem.W.Frag} {H : Hp} {p : Addr} {ms : List Bs} (h : TabIn H p ms) : Dp K H (.ref p) (tabD ms) := by
  obtain ⟨rs, h1, h2⟩ := h
  have rows : ∀ {ms : List Bs} {rs : List Addr}, Paired (fun m r => RowAt H r m) ms rs → DpAll K H (rs.map V.ref) (ms.map rowD) := fun {ms rs} h => by
    induction h with
    | nil => exact .nil
    | cons r t ih =>
      obtain ⟨qs, a, b⟩ := r
      exact .cons (.lst (SqL.of a) (dp_row b)) ih
  exact .lst (SqL.of h1) (rows h2)
theorem dp_bools {K : PySem.W.Frag} {H : Hp} : ∀ bs : List Bool, DpAll K H (bs.map V.bl) (bs.map PyData.bool)
  | [] => .nil
  | b :: r => .cons (.bl b) (dp_bools r)
theorem paired_app {α β : Type} {F : α → β → Prop} : ∀ {xs xs' : List α} {ys ys' : List β}, Paired F xs ys → Paired F xs' ys' → Paired F (xs ++ xs') (ys ++ ys')
  | _, _, _, _, .nil, h => h
  | _, _, _, _, .cons r t, h => .cons r (paired_app t h)
theorem paired_tk {α β : Type} {F : α → β → Prop} : ∀ {xs : List α} {ys : List β} (n : Nat), Paired F xs ys → Paired F (xs.take n) (ys.take n)
  | _, _, 0, _ => .nil
  | _, _, _ + 1, .nil => .nil
  | _, _, n + 1, .cons r t => .cons r (paired_tk n t)
theorem paired_dr {α β : Type} {F : α → β → Prop} : ∀ {xs : List α} {ys : List β} (n : Nat), Paired F xs ys → Paired F (xs.drop n) (ys.drop n)
  | _, _, 0, h => h
  | _, _, _ + 1, .nil => .nil
  | _, _, n + 1, .cons r t => paired_dr n t
/-- [shows(tape, mark, goal, item) for goal in (..)] -/
theorem e_shows {K : PySem.W.Frag} {σ : L2.St} {H : Hp} {te0 : TE} {j i4 i2 i5 : Nat} {b p : Addr} {ws : List Str} {W : Nat} {il : Bool} {z : Str} {ms : List Bs} {Q : VK} (gs : List Int) (n4 : i4 ≠ j) (n2 : i2 ≠ j) (n5 : i5 ≠ j) (hj : j < (wipe σ [j]).length)
    (h4 : (wipe σ [j])[i4]? = some (some (.ref b))) (h2 : (wipe σ [j])[i2]? = some (some (.str z))) (h5 : (wipe σ [j])[i5]? = some (some (.ref p))) (wj : ∀ x, wipe ((wipe σ [j]).set j x) [j] = wipe σ [j])
    (hb : BandAt K H b ws il) (ok : WordsOk ws W) (hz : MarkOk z) (hp : TabIn H p ms) (lms : ms.length = z.length) (oks : ∀ i m, ms[i]? = some m → RowOk ws (sgn z i) m) (lg : gs.length ≤ 10)
    (ht : ∀ R : VK, (∀ a H1, Same H H1 → H1 a = some (.tup (gs.map V.int)) → R (.ref a) H1) → te0 σ H R)
    (q : ∀ H' D, Same H H' → H' D = some (.lst ((gs.map fun g => showB ws W il z g ms).map V.bl)) → Q (.ref D) H') :
    tLc (iTup K te0) (gName j) tYes (tCall (spShows K) [] E0 (tCons (tVar i4) (tCons (tVar i2) (tCons (tVar j) (tCons (tVar i5) tNil))))) [j] σ H Q := by
  unfold tLc iTup
  refine ht _ fun a H1 s1 ha => ⟨a, rfl, ⟨_, SqT.of ha⟩, fun D nD => ?_⟩
  refine lc_tup (K := K) (a := a) (xs := gs.map V.int) (fun i H' => Same H1 H' ∧ H' D = some (.lst (((gs.take i).map fun g => showB ws W il z g ms).map V.bl))) ⟨same_upd nD, upd_same⟩ (fun _ _ _ h => SqT.of (h.1 _ _ ha)) ?_ ?_
  · rintro i x H2 hx ⟨s2, hD⟩
    rw [List.getElem?_map] at hx
    obtain ⟨g, hg, rfl⟩ := Option.map_eq_some_iff.mp hx
    have s02 := s1.trans s2
    have il2 := (List.getElem?_eq_some_iff.mp hg).1
    refine ⟨wj _, lcY ⟨_, by rw [List.getElem?_set_ne n4.symm]; exact h4, _, by rw [List.getElem?_set_ne n2.symm]; exact h2, _, by rw [List.getElem?_set_self hj], _, by rw [List.getElem?_set_ne n5.symm]; exact h5, b, p, ws, W, il, z, g, ms, rfl, hb.same s02, ok, hz, hp.same s02, lms, oks, fun H3 s3 => ⟨_, s3 _ _ hD, ?_, Same.put (s2.trans s3) nD, ?_⟩⟩⟩
    · rw [List.length_map, List.length_map, List.length_take]
      exact small1000 (by omega)
    · rw [upd_same, List.take_add_one, hg, List.map_append, List.map_append]; rfl
  · rintro H2 ⟨s2, hD⟩
    rw [List.length_map, List.take_length] at hD
    exact q H2 D (s1.trans s2) hD
/-- item[:at] + [other] + item[at + 1:] -/
theorem e_chg {K : PySem.W.Frag} {σ : L2.St} {H : Hp} {i5 i12 i15 : Nat} {p o : Addr} {ms : List Bs} {m' : Bs} {at_ : Nat} {Q : VK} (h5 : σ[i5]? = some (some (.ref p))) (h12 : σ[i12]? = some (some (.int at_))) (h15 : σ[i15]? = some (some (.ref o))) (hp : TabIn H p ms) (ho : RowAt H o m') (hat : at_ < ms.length) (lms : ms.length ≤ 1000)
    (q : ∀ H' r, Same H H' → TabIn H' r (chg ms at_ m') → Q (.ref r) H') :
    tOp rCat (tOp rCat (tSl (rSlL K) (tVar i5) tNoPart (tPart (tVar i12))) (tLst (tCons (tVar i15) tNil))) (tSl (rSlL K) (tVar i5) (tPart (tOp (rI0 fun i j => .int (i + j)) (tVar i12) (tC (.int 1)))) tNoPart) σ H Q := by
  obtain ⟨rs, hp1, hrs⟩ := hp
  have lr := paired_len hrs
  refine ⟨_, h5, _, h12, _, rfl, p, _, rfl, SqL.of hp1, fun a na => ?_⟩
  rw [cutV_take]
  have sa := same_upd (o := .lst ((rs.map V.ref).take at_)) na
  refine ⟨_, h15, by show 1 ≤ sizeLine; decide, fun l nl => ?_⟩
  have sl := same_upd (o := .lst [V.ref o]) nl
  refine ⟨a, l, _, _, rfl, rfl, sl _ _ upd_same, upd_same, by rw [List.length_take, List.length_map]; exact Nat.le_of_lt (small1000 (by simp; omega)), fun c nc => ?_⟩
  have sc := same_upd (o := .lst ((rs.map V.ref).take at_ ++ [V.ref o])) nc
  have s3 := (sa.trans sl).trans sc
  refine ⟨_, h5, _, h12, _, _, rfl, rfl, _, rfl, p, _, rfl, SqL.of (s3 _ _ hp1), fun d nd => ?_⟩
  have e1 : (at_ : Int) + 1 = ((at_ + 1 : Nat) : Int) := by omega
  rw [e1, cutV_drop]
  have sd := same_upd (o := .lst ((rs.map V.ref).drop (at_ + 1))) nd
  refine ⟨c, d, _, _, rfl, rfl, sd _ _ upd_same, upd_same, by simp only [List.length_append, List.length_take, List.length_drop, List.length_map, List.length_singleton]; exact Nat.le_of_lt (small1000 (by omega)), fun r nr => ?_⟩
  have sr := same_upd (o := .lst ((rs.map V.ref).take at_ ++ [V.ref o] ++ (rs.map V.ref).drop (at_ + 1))) nr
  have s5 := (s3.trans sd).trans sr
  refine q _ r s5 ⟨rs.take at_ ++ [o] ++ rs.drop (at_ + 1), by rw [upd_same]; simp [List.map_take, List.map_drop], ?_⟩
  have h2 := paired_imp (fun m r (e : RowAt H r m) => e.same s5) hrs
  unfold chg
  exact paired_app (paired_app (paired_tk at_ h2) (.cons (ho.same s5) .nil)) (paired_dr (at_ + 1) h2)
end K42

set_option Elab.async false
set_option linter.all false
set_option maxRecDepth 100000
set_option maxHeartbeats 4000000
namespace K42
open PySem PySem.Spec PyProof.Rows L2 He Ov
def spRight : Sp := fun vs H Q _ => ∃ (v a : Addr) (ws : List Str) (W n : Nat) (il : Bool) (z : Str), vs = [.ref v, .ref a, .str z, .bl il] ∧ Vat H v n ∧ n < 2 ^ 19 ∧ H a = some (.lst (ws.map V.str)) ∧ WordsOk ws W ∧ MarkOk z ∧ ∀ H', FV H H' → Vat H' v (n + 10) → (∀ b o, b ≠ v → H b = some o → H' b = some o) → Q (.bl true) H'
theorem shaped_fine {d : PyData} {a b : Nat} (h : Fine d a b) (h2 : a ≤ 60) : SeqAt.shaped d = true := by
  unfold SeqAt.shaped
  rw [h.lay, decide_eq_true (Nat.le_trans h.dep (by omega))]; rfl
theorem row_nil : PyData.eqv (rowD []) (.list []) = true := rfl
theorem row_cons (e : IK × Int) (r : Bs) : PyData.eqv (rowD (e :: r)) (.list []) = false := rfl
theorem shaped_bools (bs : List Bool) (h : bs.length ≤ 3) : SeqAt.shaped (.list (bs.map PyData.bool)) = true := by
  match bs, h with
  | [], _ => rfl
  | [a], _ => rfl
  | [a, b], _ => rfl
  | [a, b, c], _ => rfl
section
variable {P : Program} {w : World} {K : PySem.W.Frag} {mg : Str → Option Value} {base : Heap}
abbrev N_rt : List Str := ["vat", "words", "mark", "is_line", "tape", "item", "one", "ends", "least", "far", "row", "lower", "at", "spot", "higher", "other", "goal"]
theorem sc_rt : FnScope N_rt ["vat", "words", "mark", "is_line"] (defScope s__law_right) := ⟨rfl, rfl, rfl, by decide +kernel, rfl, by decide +kernel, by decide +kernel⟩
theorem b_rt : BindsX "_law_right" "_law_right" s__law_right ["vat", "words", "mark", "is_line"] := fun _ _ _ _ _ _ us hl => match us, hl with | [_, _, _, _], _ => rfl
theorem ok_rt (T : Txt K mg) : CallG P w K mg base CX0 7 "_law_right" ["vat", "words", "mark", "is_line"] spRight := by
  refine ⟨keptG_of T.f__law_right sc_rt b_rt (fun vs H Q E h => ?_) (fun cdv A outer s H vs Q E hgu hr h => ?_), T.g__law_right, keep T.f__law_right⟩
  · obtain ⟨v, a, ws, W, n, il, z, rfl, _⟩ := h
    rfl
  · obtain ⟨v, a, ws, W, n, il, z, rfl, hv, hn, ha, ok, hz, q⟩ := h
    have hu : (A.deeper (envOfC "_law_right" (defScope s__law_right) s.heap.objs.size (ga K "_law_right") cdv)).units + 64 < cLine := hr.units
    have hu1 := hu_of hr
    refine ⟨_, pss_cons (ps_asg (pe_tup (pa_cons (pe_callC (ok_md T) hr (by rfl) pass0 (pa_cons (pv 1) (pa_cons (pv 3) pa_nil))) (pa_cons (pe_callC (ok_ls T) (hr.mono (by decide)) (by rfl) pass0 (pa_cons (pe_callC (ok_le T) (hr.mono (by decide)) (by rfl) pass0 (pa_cons (pv 1) (pa_cons (pv 2) (pa_cons (pv 3) pa_nil)))) pa_nil)) pa_nil)))
        (pg_tup rfl (pgs_cons (pg_name (i := 4) sc_rt.nd rfl (.inr rfl)) (pgs_cons (pg_name (i := 5) sc_rt.nd rfl (.inr rfl)) pgs_nil))))
      (pss_cons (ps_setLc (i := 7) (own := [("one", 6)]) (tt := tOr (tTest (tOp rEq (tOp (rI0 fun i j => .int (i + j)) (tOp (rIxT K) (tVar 6) (tC (.int 1))) (tC (.int 1))) (tCB (fun xs H Q => ∃ z, xs = [V.str z] ∧ z.length ≤ sizeLine ∧ Q (V.int ↑z.length) H) (tCons (tOp (rIxL K) (tVar 1) (tC (.int 0))) tNil)))) (tNot (tB (tVar 3)))) (te := tOp (rIxT K) (tVar 6) (tC (.int 2))) rfl sc_rt.nd rfl rfl (sw_true rfl rfl rfl (by decide +kernel))
        (pi_list (pe_ix ix_list (pv 5) (pe_un un_neg pe_int) (fun _ _ => rfl))) (blkOk_by (N := N_rt) (sc := defScope s__law_right) (by decide +kernel)) (fun _ _ _ _ _ => pg_name (i := 6) sc_rt.nd rfl (.inl rfl))
        (fun _ _ _ _ _ => pts_one (PW.pt (pw_or (pt_cmpR op_eq (pe_op op_add (pe_ix ix_tup (pv 6) pe_int (fun _ _ => rfl)) pe_int) (pe_callB call_len_str (by rfl) T.z_len PySem.boot_len (pa_cons (pe_ix ix_list (pv 1) pe_int (fun _ _ => rfl)) pa_nil)) (nomark _)) (pw_or1 (pt_not (pt_val (pv 3)))))))
        (fun _ _ _ _ _ => pe_ix ix_tup (pv 6) pe_int (fun _ _ => rfl)))
      (pss_cons (ps_if (pt_cmpR (op_eqD hr.units) (pv 7) (pe_lst pa_nil) (nomark _))
        (pss_one (ps_if (pt_cmpR (op_neD hr.units) (pe_lc (own := [("goal", 16)]) (te := tCall (spShows K) [] E0 (tCons (tVar 4) (tCons (tVar 2) (tCons (tVar 16) (tCons (tVar 5) tNil))))) rfl sc_rt.nd (pi_tup (pe_tup (pa_cons pe_int (pa_cons (pe_op op_pow pe_int pe_int) pa_nil)))) (blkOk_by (N := N_rt) (sc := defScope s__law_right) (by decide +kernel)) (fun _ _ _ _ _ => pg_name (i := 16) sc_rt.nd rfl (.inl rfl)) (fun _ _ _ _ _ => pts_nil)
            (fun _ _ _ _ _ => pe_callC (ok_sh T) (hr.mono (by decide)) (by rfl) pass0 (pa_cons (pv 4) (pa_cons (pv 2) (pa_cons (pv 16) (pa_cons (pv 5) pa_nil)))))) (pe_lst (pa_cons pe_bl (pa_cons pe_bl pa_nil))) (nomark _)) (pss_one ps_never) pss_nil))
        (pss_cons (ps_set (i := 8) sc_rt.nd rfl (.inl rfl) (pe_callB (cr_min rfl) (by rfl) T.z_min (by decide +kernel) (pa_cons (pv 7) pa_nil)))
        (pss_cons (ps_set (i := 9) sc_rt.nd rfl (.inl rfl) (pe_ix ix_list (pe_lst (pa_cons (pe_op op_sub pe_int (pv 8)) (pa_cons (pe_op op_sub pe_int (pe_op op_pow pe_int pe_int)) pa_nil))) (pe_callC (ok_sip T) (hr.mono (by decide)) (by rfl) pass0 (pa_cons (pv 0) (pa_cons pe_int pa_nil))) (fun _ _ => rfl)))
        (pss_cons (ps_if (pt_cmpR (op_neD hr.units) (pe_lc (own := [("goal", 16)]) (te := tCall (spShows K) [] E0 (tCons (tVar 4) (tCons (tVar 2) (tCons (tVar 16) (tCons (tVar 5) tNil))))) rfl sc_rt.nd (pi_tup (pe_tup (pa_cons (pv 8) (pa_cons (pe_op op_add (pv 8) pe_int) (pa_cons (pv 9) pa_nil))))) (blkOk_by (N := N_rt) (sc := defScope s__law_right) (by decide +kernel)) (fun _ _ _ _ _ => pg_name (i := 16) sc_rt.nd rfl (.inl rfl)) (fun _ _ _ _ _ => pts_nil)
            (fun _ _ _ _ _ => pe_callC (ok_sh T) (hr.mono (by decide)) (by rfl) pass0 (pa_cons (pv 4) (pa_cons (pv 2) (pa_cons (pv 16) (pa_cons (pv 5) pa_nil)))))) (pe_lst (pa_cons pe_bl (pa_cons pe_bl (pa_cons pe_bl pa_nil)))) (nomark _)) (pss_one ps_never) pss_nil)
        (pss_cons (ps_set (i := 11) sc_rt.nd rfl (.inr rfl) (pe_lc (own := [("row", 10)]) (te := tLc (iList K (tVar 10)) (gName 6) tYes (tTup (tCons (tOp (rIxT K) (tVar 6) (tC (.int 0))) (tCons (tOp (rIxT K) (tVar 6) (tC (.int 1))) (tCons (tOp (rI0 fun i j => .int (i - j)) (tOp (rIxT K) (tVar 6) (tC (.int 2))) (tC (.int 1))) tNil)))) [6]) rfl sc_rt.nd (pi_list (pv 5)) (blkOk_by (N := N_rt) (sc := defScope s__law_right) (by decide +kernel))
            (fun _ _ _ _ _ => pg_name (i := 10) sc_rt.nd rfl (.inl rfl)) (fun _ _ _ _ _ => pts_nil)
            (fun _ _ _ _ _ => pe_lc (own := [("one", 6)]) rfl sc_rt.nd (pi_list (pv 10)) (blkOk_by (N := N_rt) (sc := { kind := .function, names := [(Str.ofString ".0", .local), (Str.ofString "row", .local)], isGenerator := false, isCoroutine := false }) (by decide +kernel)) (fun _ _ _ _ _ => pg_name (i := 6) sc_rt.nd rfl (.inl rfl)) (fun _ _ _ _ _ => pts_nil)
              (fun _ _ _ _ _ => pe_tup (pa_cons (pe_ix ix_tup (pv 6) pe_int (fun _ _ => rfl)) (pa_cons (pe_ix ix_tup (pv 6) pe_int (fun _ _ => rfl)) (pa_cons (pe_op op_sub (pe_ix ix_tup (pv 6) pe_int (fun _ _ => rfl)) pe_int) pa_nil)))))))
        (pss_one (ps_if (pt_cmpR (op_neD hr.units) (pe_lc (own := [("goal", 16)]) (te := tCall (spShows K) [] E0 (tCons (tVar 4) (tCons (tVar 2) (tCons (tVar 16) (tCons (tVar 11) tNil))))) rfl sc_rt.nd (pi_tup (pe_tup (pa_cons (pv 8) (pa_cons (pe_op op_sub (pv 8) pe_int) pa_nil)))) (blkOk_by (N := N_rt) (sc := defScope s__law_right) (by decide +kernel)) (fun _ _ _ _ _ => pg_name (i := 16) sc_rt.nd rfl (.inl rfl)) (fun _ _ _ _ _ => pts_nil)
            (fun _ _ _ _ _ => pe_callC (ok_sh T) (hr.mono (by decide)) (by rfl) pass0 (pa_cons (pv 4) (pa_cons (pv 2) (pa_cons (pv 16) (pa_cons (pv 11) pa_nil)))))) (pe_lst (pa_cons pe_bl (pa_cons pe_bl pa_nil))) (nomark _)) (pss_one ps_never) pss_nil)))))))
      (pss_cons (ps_set (i := 12) sc_rt.nd rfl (.inl rfl) (pe_callC (ok_sip T) (hr.mono (by decide)) (by rfl) pass0 (pa_cons (pv 0) (pa_cons (pe_callB call_len_str (by rfl) T.z_len PySem.boot_len (pa_cons (pv 2) pa_nil)) pa_nil))))
      (pss_cons (ps_if (pt_cmpR (op_neD hr.units) (pe_ix ix_list (pv 5) (pv 12) (fun _ _ => rfl)) (pe_lst pa_nil) (nomark _))
        (pss_cons (ps_set (i := 13) sc_rt.nd rfl (.inl rfl) (pe_callC (ok_sip T) (hr.mono (by decide)) (by rfl) pass0 (pa_cons (pv 0) (pa_cons (pe_callB call_len_seq (by rfl) T.z_len PySem.boot_len (pa_cons (pe_ix ix_list (pv 5) (pv 12) (fun _ _ => rfl)) pa_nil)) pa_nil))))
        (pss_cons (ps_par (i := 6) (j := 10) (by rfl) sc_rt.nd rfl rfl (by decide) rfl rfl (pa_cons (pe_ix ix_list (pe_ix ix_list (pv 5) (pv 12) (fun _ _ => rfl)) (pv 13) (fun _ _ => rfl)) (pa_cons (pe_ix ix_list (pv 5) (pv 12) (fun _ _ => rfl)) pa_nil)) (by rfl))
        (pss_cons (ps_set (i := 14) sc_rt.nd rfl (.inl rfl) (pe_op op_cat (pe_op op_cat (pe_slice sl_list (pv 10) po_none (po_some (pv 13))) (pe_lst (pa_cons (pe_tup (pa_cons (pe_ix ix_tup (pv 6) pe_int (fun _ _ => rfl)) (pa_cons (pe_ix ix_tup (pv 6) pe_int (fun _ _ => rfl)) (pa_cons (pe_op op_add (pe_op op_add (pe_ix ix_tup (pv 6) pe_int (fun _ _ => rfl)) pe_int) (pe_callC (ok_sip T) (hr.mono (by decide)) (by rfl) pass0 (pa_cons (pv 0) (pa_cons pe_int pa_nil)))) pa_nil)))) pa_nil)))
            (pe_slice sl_list (pv 10) (po_some (pe_op op_add (pv 13) pe_int)) po_none)))
        (pss_one (ps_for PassesOwn.never rfl (pi_list (pe_lst (pa_cons (pv 14) (pa_cons (pe_op op_cat (pe_slice sl_list (pv 10) po_none (po_some (pv 13))) (pe_slice sl_list (pv 10) (po_some (pe_op op_add (pv 13) pe_int)) po_none)) pa_nil)))) (pg_name (i := 15) sc_rt.nd rfl (.inl rfl))
          (pss_one (ps_if (pt_cmpR op_notBl (pe_callC (ok_sh T) (hr.mono (by decide)) (by rfl) pass0 (pa_cons (pv 4) (pa_cons (pv 2) (pa_cons (pe_op op_sub pe_int (pe_op op_pow pe_int pe_int)) (pa_cons (pe_op op_cat (pe_op op_cat (pe_slice sl_list (pv 5) po_none (po_some (pv 12))) (pe_lst (pa_cons (pv 15) pa_nil))) (pe_slice sl_list (pv 5) (po_some (pe_op op_add (pv 12) pe_int)) po_none)) pa_nil))))) pe_bl (nomark _)) (pss_one ps_never) pss_nil))))))) pss_nil)
      (pss_one (ps_ret (pe_cmpR op_eq (pe_callB (call_reprD hgu hu) (by rfl) T.z_repr (by decide +kernel) (pa_cons (pe_callC (ok_tb T) (hr.mono (by decide)) (by rfl) pass0 (pa_cons (pv 4) (pa_cons (pv 2) pa_nil))) pa_nil)) (pe_callB (call_reprD hgu hu) (by rfl) T.z_repr (by decide +kernel) (pa_cons (pv 5) pa_nil)) (nomark _)))))))), ?_⟩
    have n1 := ok.ne
    have w8 := ok.w8
    obtain ⟨z1, z2, z3⟩ := id hz
    obtain ⟨zw, hzw⟩ : ∃ z, ws[0]? = some z := ⟨_, List.getElem?_eq_getElem n1⟩
    have lzw := ok.len zw (List.mem_of_getElem? hzw)
    have oks : ∀ m ∈ tabs il W ws z z.length, BsOk ws W m := fun m hm => by
      unfold tabs at hm
      obtain ⟨i, _, rfl⟩ := List.mem_map.mp hm
      exact prev_ok ok il z i
    have nums := tabs_num ok il z z2
    have roks := rowOk_tabs ok il z z.length
    have lms := tabs_len il W ws z z.length
    have mLast := msAt_tabs il W ws z (show z.length - 1 < z.length by omega)
    have msj := fun j (h : j < z.length) => msAt_tabs il W ws z h
    refine ⟨_, rfl, _, rfl, a, ws, W, il, rfl, ha, ok, fun H1 tp s1 hb => ⟨_, rfl, _, rfl, _, rfl, a, ws, W, il, z, rfl, s1 _ _ ha, ok, hz, fun H2 dl s2 hD => ⟨dl, ws, W, _, rfl, hD, oks, by omega, fun H3 ip s3 hT => ⟨by show 2 ≤ sizeLine; decide, fun T0 nT0 => ⟨T0, _, rfl, SqT.of upd_same, rfl, _, _, rfl, _, _, rfl, rfl, ?_⟩⟩⟩⟩⟩
    have sT := same_upd (o := .tup [V.ref tp, V.ref ip]) nT0
    have s04 : Same H (upd H3 T0 (.tup [V.ref tp, V.ref ip])) := ((s1.trans s2).trans s3).trans sT
    have hb4 := hb.same ((s2.trans s3).trans sT)
    have hI4 := (TabAt.in_ hT).same sT
    clear sT
    generalize upd H3 T0 (.tup [V.ref tp, V.ref ip]) = H4 at s04 hb4 hI4
    have ha4 := s04 _ _ ha
    have hv4 := hv.same s04
    -- the list of the ends
    obtain ⟨rs, hI, hrs⟩ := id hI4
    have lrs := paired_len hrs
    obtain ⟨rl, hrl⟩ : ∃ r, rs[z.length - 1]? = some r := ⟨_, List.getElem?_eq_getElem (by omega)⟩
    obtain ⟨ml, hml, hrow⟩ := paired_get hrs hrl
    have eml := msAt_get hml
    rw [mLast] at eml
    obtain ⟨ql, hql, hqp⟩ := hrow
    have lql := paired_len hqp
    have lml : ml.length ≤ 36 := (nums ml (List.mem_of_getElem? hml)).1
    refine ⟨_, rfl, _, rfl, ip, _, _, V.ref rl, rfl, rfl, SqL.of hI, atI_neg (by rw [List.length_map, lrs, lms, List.getElem?_map, hrl]; rfl), rl, rfl, ⟨_, SqL.of hql⟩, fun D nD => ?_⟩
    refine lc_list (K := K) (a := rl) (xs := ql.map V.ref) (fun i H' => Same H4 H' ∧ H' D = some (.lst ((endsV W il (ml.take i)).map V.int))) ⟨same_upd nD, upd_same⟩ (fun _ _ _ h => SqL.of (h.1 _ _ hql)) ?_ ?_
    · rintro i x H5 hx ⟨s5, hD5⟩
      rw [List.getElem?_map] at hx
      obtain ⟨qa, hqa, rfl⟩ := Option.map_eq_some_iff.mp hx
      obtain ⟨e, he, hq⟩ := row_get (r := rl) hqp hqa
      have hq5 := s5 _ _ hq
      have ha5 := s5 _ _ ha4
      have tk : ml.take (i + 1) = ml.take i ++ [e] := by rw [List.take_add_one, he]; rfl
      have ix : i < 36 := by
        have := (List.getElem?_eq_some_iff.mp he).1
        omega
      have llen : (endsV W il (ml.take i)).length ≤ 36 := by
        unfold endsV
        rw [List.length_map]
        have := List.length_filter_le (endOk W il) (ml.take i)
        rw [List.length_take] at this
        omega
      have yes : endOk W il e = true → tOp (rIxT K) (tVar 6) (tC (.int 2)) [some (.ref v), some (.ref a), some (.str z), some (.bl il), some (.ref tp), some (.ref ip), some (.ref qa), none, none, none, none, none, none, none, none, none, none] H5 fun y H4' => ∃ acc, H4' D = some (.lst acc) ∧ acc.length < sizeLine ∧ Same H4 (upd H4' D (.lst (acc ++ [y]))) ∧ upd H4' D (.lst (acc ++ [y])) D = some (.lst ((endsV W il (ml.take (i + 1))).map V.int)) := fun c => by
        refine ⟨_, rfl, qa, _, _, _, rfl, rfl, SqT.of hq5, rfl, _, hD5, by rw [List.length_map]; exact small1000 (by omega), Same.put s5 nD, ?_⟩
        rw [upd_same, tk]
        unfold endsV
        rw [List.filter_append, List.filter_cons_of_pos c, List.map_append, List.map_append]; rfl
      have no : endOk W il e = false → Same H4 H5 ∧ H5 D = some (.lst ((endsV W il (ml.take (i + 1))).map V.int)) := fun c => by
        refine ⟨s5, ?_⟩
        rw [hD5, tk]
        unfold endsV
        rw [List.filter_append, List.filter_cons_of_neg (by rw [c]; simp)]
        simp
      refine ⟨rfl, _, rfl, qa, _, _, _, rfl, rfl, SqT.of hq5, rfl, _, _, rfl, rfl, _, rfl, a, _, _, _, rfl, rfl, SqL.of ha5, atI_nat (j := 0) (v := .str zw) (by rw [List.getElem?_map, hzw]; rfl), _, rfl, len_le (by omega), rfl, _, rfl, ?_⟩
      rw [lzw]
      by_cases c : e.1.2 + 1 = (W : Int)
      · rw [decide_eq_true (congrArg V.int c : V.int (e.1.2 + 1) = V.int W)]
        exact iteT (iteT (yes (by unfold endOk; rw [decide_eq_true (by omega)]; rfl)))
      · rw [decide_eq_false (fun e' : V.int (e.1.2 + 1) = V.int (W : Int) => c (by injection e'))]
        have c2 : endOk W il e = !il := by unfold endOk; rw [decide_eq_false (by omega)]; rfl
        refine iteF ⟨_, rfl, il, rfl, ?_⟩
        cases il with
        | true => exact iteF (no c2)
        | false => exact iteT (yes c2)
    rintro H5 ⟨s5, hE5⟩
    rw [List.length_map, lql, List.take_length] at hE5
    have s05 := s04.trans s5
    have hb5 := hb4.same s5
    have hI5 := hI4.same s5
    have hv5 := hv4.same s5
    have hEnd : lastB W il = fun g m => lastB W il g m := rfl
    have sT := fun g => show_tabs ok il hz g
    have sL := fun g => show_low ok il hz g
    rw [eml] at sT sL
    -- if ends == []
    refine ⟨_, rfl, by show 0 ≤ sizeLine; decide, fun e0 ne0 => ⟨_, _, .lst (SqL.of ((same_upd ne0) _ _ hE5)) (dp_ints _), .lst (SqL.of upd_same) .nil, shaped_ints _, by decide, _, rfl, ?_⟩⟩
    have s6 := same_upd (o := .lst []) ne0
    have s06 := s05.trans s6
    have hb6 := hb5.same s6
    have hI6 := hI5.same s6
    have hv6 := hv5.same s6
    have hE6 := s6 _ _ hE5
    clear s6
    generalize upd H5 e0 (.lst []) = H6 at s06 hb6 hI6 hv6 hE6
    have tw : ∀ (h : Hp) (l : Addr) (bs : List Bool), h l = some (.lst (bs.map V.bl)) → Dp K h (.ref l) (.list (bs.map PyData.bool)) := fun h l bs e => .lst (SqL.of e) (dp_bools bs)
    have fine := fine_tab nums (by omega)
    have fl := fine.len (by decide) (by decide)
    have fin : ∀ (σ' : L2.St) (H' : Hp), σ'[4]? = some (some (.ref tp)) → σ'[2]? = some (some (.str z)) → σ'[5]? = some (some (.ref ip)) → FV H6 H' → SameBut v H6 H' → Vat H' v (n + 10) →
        tRet (tOp rEq (tCB (rReprD K) (tCons (tCall (spTab K) [] E0 (tCons (tVar 4) (tCons (tVar 2) tNil))) tNil)) (tCB (rReprD K) (tCons (tVar 5) tNil))) { nx := fun _ H' => Q V.non H', rt := Q } σ' H' := fun σ' H' h4 h2 h5 f6 sb6 hv' => by
      refine ⟨_, h4, _, h2, tp, ws, W, il, z, rfl, BandAt.fv hb6 f6, ok, hz, fun H2 p s hT => ?_⟩
      refine ⟨_, tabD (tabs il W ws z z.length), rfl, dp_tab hT, rfl, fine.sh, fine.nd, Nat.le_trans fine.dep (by decide), fl, _, h5, _, tabD (tabs il W ws z z.length), rfl, dp_tabIn ((TabIn.fv hI6 f6).same s), rfl, fine.sh, fine.nd, Nat.le_trans fine.dep (by decide), fl, rfl, ?_⟩
      rw [decide_eq_true rfl]
      exact q H2 (((FV.of s06).trans f6).trans (FV.of s)) (hv'.same s) fun b o nb hb => s _ _ (sb6 _ _ nb (s06 _ _ hb))
    cases hE : endsV W il ml
    case' nil =>
      rw [ints_nil]
      refine iteT ?_
      dsimp only [gName, tSeq, tIfS, tTest, tOp]
      refine e_shows (b := tp) (p := ip) (ws := ws) (W := W) (il := il) (z := z) (ms := tabs il W ws z z.length) [1, 10 ^ 59] (by decide) (by decide) (by decide) (by show 16 < 17; decide) rfl rfl rfl (fun _ => rfl) hb6 ok hz hI6 lms roks (by decide) (fun R hR => ⟨_, _, rfl, rfl, ⟨by decide, by decide, by decide⟩, by show 2 ≤ sizeLine; decide, fun t nt => hR t _ (same_upd nt) upd_same⟩) fun H7 D2 s7 hD2 => ?_
      have e2 : ([1, 10 ^ 59].map fun g => showB ws W il z g (tabs il W ws z z.length)) = [true, true] := by
        show [showB ws W il z 1 _, showB ws W il z (10 ^ 59) _] = _
        rw [sT, sT, last_nil hE, last_nil hE]
      rw [e2] at hD2
      refine ⟨by show 2 ≤ sizeLine; decide, fun l nl => ⟨_, _, tw _ _ _ ((same_upd nl) _ _ hD2), tw _ l [true, true] upd_same, shaped_bools _ (by decide), shaped_bools _ (by decide), _, rfl, iteF ?_⟩⟩
      have s67 : Same H6 (upd H7 l (.lst [V.bl true, V.bl true])) := s7.trans (same_upd nl)
      have sb7 : SameBut v H6 (upd H7 l (.lst [V.bl true, V.bl true])) := Ov.Same.but s67
      have hv7 : Vat (upd H7 l (.lst [V.bl true, V.bl true])) v (n + 1) := (hv6.same s67).mono (by omega)
      clear s67
      generalize upd H7 l (.lst [V.bl true, V.bl true]) = HX at sb7 hv7
    case' cons b0 br =>
      rw [ints_cons]
      refine iteF ?_
      refine ⟨_, rfl, D, b0 :: br, rfl, by rw [← hE]; exact SqL.of hE6, by simp, fun least lm1 lm2 => ?_⟩
      rw [← hE] at lm1 lm2
      have lpos : 1 ≤ least := by
        unfold endsV at lm1
        obtain ⟨e, he, rfl⟩ := List.mem_map.mp lm1
        have := prev_pos il W ws z (z.length - 1) e (by rw [eml]; exact (List.mem_filter.mp he).1)
        exact this
      refine ⟨_, rfl, _, _, rfl, rfl, _, _, rfl, rfl, ⟨by decide, by decide, by decide⟩, _, _, rfl, rfl, by show 2 ≤ sizeLine; decide, fun fl nfl => ?_⟩
      have s67 := same_upd (o := .lst [V.int (1 - least), V.int (0 - 10 ^ (59 : Int).toNat)]) nfl
      have hfl := upd_same (H := H6) (a := fl) (o := .lst [V.int (1 - least), V.int (0 - 10 ^ (59 : Int).toNat)])
      have vfl : fl ≠ v := vat_ne hv6 nfl
      refine ⟨_, rfl, v, 2, n, rfl, hv6.same s67, by omega, by decide, by decide, fun H7 r r0 r1 s7 hv7 => ?_⟩
      obtain ⟨fr, hfr, lfr⟩ : ∃ fr : Int, atI [V.int (1 - least), V.int (0 - 10 ^ (59 : Int).toNat)] r = some (.int fr) ∧ fr ≤ least := by
        have h2 : r = 0 ∨ r = 1 := by omega
        rcases h2 with rfl | rfl
        · exact ⟨_, rfl, by omega⟩
        · exact ⟨_, rfl, by have : (0 : Int) ≤ 10 ^ (59 : Int).toNat := by decide
                            omega⟩
      refine ⟨fl, _, r, .int fr, rfl, rfl, SqL.of (s7 _ _ vfl hfl), hfr, ?_⟩
      have sb67 : SameBut v H6 H7 := (Ov.Same.but s67).trans s7
      have f67 : FV H6 H7 := (FV.of s67).trans (FV.draw (hv6.same s67) s7)
      have hb7 := BandAt.fv hb6 f67
      have hI7 := TabIn.fv hI6 f67
      dsimp only [gName, tSeq, tIfS, tTest, tOp]
      refine e_shows (b := tp) (p := ip) (ws := ws) (W := W) (il := il) (z := z) (ms := tabs il W ws z z.length) [least, least + 1, fr] (by decide) (by decide) (by decide) (by show 16 < 17; decide) rfl rfl rfl (fun _ => rfl) hb7 ok hz hI7 lms roks (by show 3 ≤ 10; decide) (fun R hR => ⟨_, rfl, _, rfl, _, _, rfl, rfl, _, rfl, by show 3 ≤ sizeLine; decide, fun t nt => hR t _ (same_upd nt) upd_same⟩) fun H8 D2 s8 hD2 => ?_
      have e2 : ([least, least + 1, fr].map fun g => showB ws W il z g (tabs il W ws z z.length)) = [true, false, true] := by
        show [showB ws W il z least _, showB ws W il z (least + 1) _, showB ws W il z fr _] = _
        rw [sT, sT, sT, last_le lm1 lm2, last_le lm1 lm2, last_le lm1 lm2, decide_eq_true (Int.le_refl _), decide_eq_false (by omega), decide_eq_true lfr]
      rw [e2] at hD2
      refine ⟨by show 3 ≤ sizeLine; decide, fun l nl => ⟨_, _, tw _ _ _ ((same_upd nl) _ _ hD2), tw _ l [true, false, true] upd_same, shaped_bools _ (by decide), shaped_bools _ (by decide), _, rfl, iteF ?_⟩⟩
      have s79 : Same H7 (upd H8 l (.lst [V.bl true, V.bl false, V.bl true])) := s8.trans (same_upd nl)
      clear s8 hD2
      generalize upd H8 l (.lst [V.bl true, V.bl false, V.bl true]) = H9 at s79
      -- lower
      have hI9 := hI7.same s79
      obtain ⟨rs9, hp9, hrs9⟩ := id hI9
      have lr9 := paired_len hrs9
      refine ⟨_, rfl, ip, rfl, ⟨_, SqL.of hp9⟩, fun DL nDL => ?_⟩
      refine lc_list (K := K) (a := ip) (xs := rs9.map V.ref) (fun i H' => Same H9 H' ∧ TabAt H' DL (((tabs il W ws z z.length).take i).map lowM)) ⟨same_upd nDL, [], upd_same, .nil⟩ (fun _ _ _ h => SqL.of (h.1 _ _ hp9)) ?_ ?_
      · rintro i x H10 hx ⟨s10, hTL⟩
        rw [List.getElem?_map] at hx
        obtain ⟨ra, hra, rfl⟩ := Option.map_eq_some_iff.mp hx
        obtain ⟨m, hm, hrow⟩ := paired_get hrs9 hra
        obtain ⟨qm, hqm, hqmp⟩ := hrow.same s10
        have lqm := paired_len hqmp
        have lm36 : m.length ≤ 36 := (nums m (List.mem_of_getElem? hm)).1
        refine ⟨rfl, lcY ⟨_, rfl, ra, rfl, ⟨_, SqL.of hqm⟩, fun RL nRL => ?_⟩⟩
        refine lc_list (K := K) (a := ra) (xs := qm.map V.ref) (fun k H' => Same H10 H' ∧ RowAt H' RL (lowM (m.take k))) ⟨same_upd nRL, [], upd_same, .nil⟩ (fun _ _ _ h => SqL.of (h.1 _ _ hqm)) ?_ ?_
        · rintro k x H11 hx ⟨s11, qr, h11, hq11⟩
          rw [List.getElem?_map] at hx
          obtain ⟨qa, hqa, rfl⟩ := Option.map_eq_some_iff.mp hx
          obtain ⟨e, he, hq⟩ := row_get (r := ra) hqmp hqa
          have hq2 := s11 _ _ hq
          have tk : m.take (k + 1) = m.take k ++ [e] := by rw [List.take_add_one, he]; rfl
          have kl := (List.getElem?_eq_some_iff.mp he).1
          refine ⟨rfl, lcY ⟨_, rfl, qa, _, _, _, rfl, rfl, SqT.of hq2, rfl, _, rfl, qa, _, _, _, rfl, rfl, SqT.of hq2, rfl, _, rfl, qa, _, _, _, rfl, rfl, SqT.of hq2, rfl, _, _, rfl, rfl, by show 3 ≤ sizeLine; decide, fun t nt => ⟨_, (same_upd nt) _ _ h11, ?_, Same.put (s11.trans (same_upd nt)) nRL, qr ++ [t], ?_, ?_⟩⟩⟩
          · rw [List.length_map, paired_len hq11]
            unfold lowM
            rw [List.length_map, List.length_take]
            exact small1000 (by omega)
          · rw [upd_same, List.map_append]; rfl
          · rw [tk]
            unfold lowM
            rw [List.map_append]
            have h12 := (same_upd (o := .tup [V.int e.1.1, V.int e.1.2, V.int (e.2 - 1)]) nt) _ _ h11
            refine paired_imp (fun _ q e2 => tup_upd h12 _ _ e2) (paired_snoc (a := (e.1, e.2 - 1)) (b := t) upd_same (paired_imp (fun _ q e2 => (same_upd nt) _ _ e2) hq11))
        · rintro H11 ⟨s11, hRL⟩
          rw [List.length_map, lqm, List.take_length] at hRL
          obtain ⟨rsL, hDL, hrsL⟩ := id hTL
          have hDL11 := s11 _ _ hDL
          have il3 := (List.getElem?_eq_some_iff.mp hm).1
          have tkm : (tabs il W ws z z.length).take (i + 1) = (tabs il W ws z z.length).take i ++ [m] := by rw [List.take_add_one, hm]; rfl
          refine ⟨_, hDL11, ?_, SameBut.same (s10.trans s11) nDL .upd, ?_⟩
          · rw [List.length_map, paired_len hrsL, List.length_map, List.length_take]
            exact small1000 (by omega)
          · rw [tkm, List.map_append]
            exact (hTL.same s11).snoc hRL (ne_of_none hDL nRL).symm hDL11
      rintro H10 ⟨s10, hTL⟩
      rw [List.length_map, lr9, List.take_length] at hTL
      have s7_10 := s79.trans s10
      dsimp only [gName, tSeq, tIfS, tTest, tOp]
      refine e_shows (b := tp) (p := DL) (ws := ws) (W := W) (il := il) (z := z) (ms := (tabs il W ws z z.length).map lowM) [least, least - 1] (by decide) (by decide) (by decide) (by show 16 < 17; decide) rfl rfl rfl (fun _ => rfl) (hb7.same s7_10) ok hz (TabAt.in_ hTL) (by rw [List.length_map]; exact lms) (fun i m h => by
          rw [List.getElem?_map] at h
          obtain ⟨m0, hm0, rfl⟩ := Option.map_eq_some_iff.mp h
          exact rowOk_sub (roks i m0 hm0) (by rw [low_keys]; exact List.Sublist.refl _)) (by show 2 ≤ 10; decide) (fun R hR => ⟨_, rfl, _, rfl, _, _, rfl, rfl, by show 2 ≤ sizeLine; decide, fun t nt => hR t _ (same_upd nt) upd_same⟩) fun H11 D3 s11 hD3 => ?_
      have e3 : ([least, least - 1].map fun g => showB ws W il z g ((tabs il W ws z z.length).map lowM)) = [false, true] := by
        show [showB ws W il z least _, showB ws W il z (least - 1) _] = _
        rw [sL, sL, last_low lm1 lm2, last_low lm1 lm2, decide_eq_false (by omega), decide_eq_true (Int.le_refl _)]
      rw [e3] at hD3
      refine ⟨by show 2 ≤ sizeLine; decide, fun l2 nl2 => ⟨_, _, tw _ _ _ ((same_upd nl2) _ _ hD3), tw _ l2 [false, true] upd_same, shaped_bools _ (by decide), shaped_bools _ (by decide), _, rfl, iteF ?_⟩⟩
      have s12 : Same H7 (upd H11 l2 (.lst [V.bl false, V.bl true])) := (s7_10.trans s11).trans (same_upd nl2)
      have hv7' := hv7.same s12
      clear hv7
      have hv7 := hv7'
      have sb7 : SameBut v H6 (upd H11 l2 (.lst [V.bl false, V.bl true])) := sb67.trans (Ov.Same.but s12)
      clear hv7' s12 hD3 s79 hI9 hp9 hrs9 s10 hTL s7_10 s11
      generalize upd H11 l2 (.lst [V.bl false, V.bl true]) = HX at sb7 hv7
    all_goals (
      have fX : FV H6 HX := FV.draw hv6 sb7
      refine ⟨_, rfl, _, rfl, _, rfl, len_le (by omega), v, z.length, n + 1, rfl, hv7, by omega, by omega, by omega, fun H12 at' a0 a1 s12 hv12 => ?_⟩
      obtain ⟨j, rfl⟩ : ∃ j : Nat, at' = j := ⟨at'.toNat, by omega⟩
      have hj : j < z.length := by omega
      have f12 : FV H6 H12 := fX.trans (FV.draw hv7 s12)
      have sb12 : SameBut v H6 H12 := sb7.trans s12
      have hI12 := TabIn.fv hI6 f12
      obtain ⟨rs2, hp2, hrs2⟩ := id hI12
      have lr2 := paired_len hrs2
      obtain ⟨rj, hrj⟩ : ∃ r, rs2[j]? = some r := ⟨_, List.getElem?_eq_getElem (by omega)⟩
      obtain ⟨mj, hmj, hrow2⟩ := paired_get hrs2 hrj
      have emj := msAt_get hmj
      rw [msj j hj] at emj
      have numj := nums mj (List.mem_of_getElem? hmj)
      obtain ⟨qj, hqj, hqjp⟩ := id hrow2
      have lqj := paired_len hqjp
      have atj : atI (rs2.map V.ref) (j : Int) = some (.ref rj) := atI_nat (by rw [List.getElem?_map, hrj]; rfl)
      refine ⟨_, rfl, _, rfl, ip, _, _, V.ref rj, rfl, rfl, SqL.of hp2, atj, by show 0 ≤ sizeLine; decide, fun e1 ne1 => ⟨rowD mj, .list [], .lst (SqL.of ((same_upd ne1) _ _ hqj)) (dp_row (paired_imp (fun _ _ e => (same_upd ne1) _ _ e) hqjp)), .lst (SqL.of upd_same) .nil, shaped_fine (fine_row numj) (by decide), by decide, _, rfl, ?_⟩⟩
      have s13 := same_upd (o := .lst []) ne1
      have f13 := f12.trans (FV.of s13)
      have sb13 := sb12.trans (Ov.Same.but s13)
      have hv13 := hv12.same s13
      have hp3 := s13 _ _ hp2
      have hqj3 := s13 _ _ hqj
      have hrow3 := hrow2.same s13
      clear s13
      generalize upd H12 e1 (.lst []) = H13 at f13 sb13 hv13 hp3 hqj3 hrow3
      rcases mj with _ | ⟨e00, er⟩
      · rw [row_nil]
        exact iteF (fin _ _ rfl rfl rfl f13 sb13 (hv13.mono (by omega)))
      · rw [row_cons]
        refine iteT ?_
        generalize hmj' : e00 :: er = mj at hmj emj hrow2 hrow3 hqjp numj lqj
        have lmj : 1 ≤ mj.length := by rw [← hmj']; simp
        have lmj36 := numj.1
        refine ⟨_, rfl, _, rfl, _, rfl, ip, _, _, V.ref rj, rfl, rfl, SqL.of hp3, atj, rj, _, rfl, .inl (SqL.of hqj3), v, _, n + 2, rfl, hv13, by omega, by rw [List.length_map, lqj]; omega, by rw [List.length_map, lqj]; omega, fun H14 sp sp0 sp1 s14 hv14 => ?_⟩
        rw [List.length_map, lqj] at sp1
        obtain ⟨k, rfl⟩ : ∃ k : Nat, sp = k := ⟨sp.toNat, by omega⟩
        have f14 := f13.trans (FV.draw hv13 s14)
        have sb14 := sb13.trans s14
        have nvL : NV (.lst (rs2.map V.ref)) := nv_refs _
        have hp4 : H14 ip = some (.lst (rs2.map V.ref)) := (FV.draw hv13 s14) _ _ nvL hp3
        have hrow4 : RowAt H14 rj mj := RowAt.fv hrow3 (FV.draw hv13 s14)
        obtain ⟨q4, hq4, hq4p⟩ := id hrow4
        have lq4 := paired_len hq4p
        obtain ⟨qk, hqk⟩ : ∃ q, q4[k]? = some q := ⟨_, List.getElem?_eq_getElem (by omega)⟩
        obtain ⟨e, he, hqe⟩ := row_get (r := rj) hq4p hqk
        have atk : atI (q4.map V.ref) (k : Int) = some (.ref qk) := atI_nat (by rw [List.getElem?_map, hqk]; rfl)
        -- one, row = ..
        refine ⟨_, rfl, _, rfl, ip, _, _, V.ref rj, rfl, rfl, SqL.of hp4, atj, _, rfl, rj, _, _, V.ref qk, rfl, rfl, SqL.of hq4, atk, _, rfl, _, rfl, ip, _, _, V.ref rj, rfl, rfl, SqL.of hp4, atj, _, _, rfl, ?_⟩
        -- higher
        refine ⟨_, rfl, _, rfl, _, rfl, rj, _, rfl, SqL.of hq4, fun la na => ?_⟩
        rw [cutV_take]
        have sla := same_upd (o := .lst ((q4.map V.ref).take k)) na
        have hla := upd_same (H := H14) (a := la) (o := .lst ((q4.map V.ref).take k))
        have f15 := f14.trans (FV.of sla)
        have sb15 := sb14.trans (Ov.Same.but sla)
        have hv15 := hv14.same sla
        have hq5 := sla _ _ hq4
        have hqe5 := sla _ _ hqe
        have hrow5 := hrow4.same sla
        have hp5 := sla _ _ hp4
        clear sla
        generalize upd H14 la (.lst ((q4.map V.ref).take k)) = H15 at hla f15 sb15 hv15 hq5 hqe5 hrow5 hp5
        refine ⟨_, rfl, qk, _, _, _, rfl, rfl, SqT.of hqe5, rfl, _, rfl, qk, _, _, _, rfl, rfl, SqT.of hqe5, rfl, _, rfl, qk, _, _, _, rfl, rfl, SqT.of hqe5, rfl, _, _, rfl, rfl, _, rfl, v, 3, n + 3, rfl, hv15, by omega, by decide, by decide, fun H16 dd dd0 dd1 s16 hv16 => ?_⟩
        have fd := FV.draw hv15 s16
        have f16 := f15.trans fd
        have sb16 := sb15.trans s16
        have hla6 : H16 la = some (.lst ((q4.map V.ref).take k)) := by
          have e : (q4.map V.ref).take k = (q4.take k).map V.ref := by rw [List.map_take]
          rw [e] at hla ⊢
          exact fd _ _ (nv_refs _) hla
        have hrow6 := RowAt.fv hrow5 fd
        have hq6 := fd _ _ (nv_refs _) hq5
        have hp6 := fd _ _ nvL hp5
        refine ⟨_, _, rfl, rfl, by show 3 ≤ sizeLine; decide, fun t nt => ⟨by show 1 ≤ sizeLine; decide, fun l1 nl1 => ?_⟩⟩
        have st := same_upd (o := .tup [V.int e.1.1, V.int e.1.2, V.int (e.2 + 1 + dd)]) nt
        have sl1 := same_upd (o := .lst [V.ref t]) nl1
        have ht : upd (upd H16 t (.tup [V.int e.1.1, V.int e.1.2, V.int (e.2 + 1 + dd)])) l1 (.lst [V.ref t]) t = some (.tup [V.int e.1.1, V.int e.1.2, V.int (e.2 + 1 + dd)]) := sl1 _ _ upd_same
        have hl1 := upd_same (H := upd H16 t (.tup [V.int e.1.1, V.int e.1.2, V.int (e.2 + 1 + dd)])) (a := l1) (o := .lst [V.ref t])
        have s67 := st.trans sl1
        have hla7 := s67 _ _ hla6
        have hq7 := s67 _ _ hq6
        have hrow7 := hrow6.same s67
        have hp7 := s67 _ _ hp6
        have f17 := f16.trans (FV.of s67)
        have sb17 := sb16.trans (Ov.Same.but s67)
        have hv17 := hv16.same s67
        clear st sl1 s67
        generalize upd (upd H16 t (.tup [V.int e.1.1, V.int e.1.2, V.int (e.2 + 1 + dd)])) l1 (.lst [V.ref t]) = H17 at ht hl1 hla7 hq7 hrow7 hp7 f17 sb17 hv17
        have lens : ((q4.map V.ref).take k).length + 1 ≤ 100 := by rw [List.length_take, List.length_map]; omega
        refine ⟨la, l1, _, _, rfl, rfl, hla7, hl1, Nat.le_of_lt (small1000 (by show _ + 1 ≤ 1000; omega)), fun lc nc => ?_⟩
        have s8 := same_upd (o := .lst ((q4.map V.ref).take k ++ [V.ref t])) nc
        refine ⟨_, rfl, _, rfl, _, _, rfl, rfl, _, rfl, rj, _, rfl, SqL.of (s8 _ _ hq7), fun ld nd => ?_⟩
        have ek : (k : Int) + 1 = ((k + 1 : Nat) : Int) := by omega
        rw [ek, cutV_drop]
        have s9 := same_upd (o := .lst ((q4.map V.ref).drop (k + 1))) nd
        refine ⟨lc, ld, _, _, rfl, rfl, s9 _ _ upd_same, upd_same, Nat.le_of_lt (small1000 (by simp only [List.length_append, List.length_take, List.length_drop, List.length_map, List.length_singleton]; omega)), fun hh nh => ?_⟩
        have s10 := same_upd (o := .lst ((q4.map V.ref).take k ++ [V.ref t] ++ (q4.map V.ref).drop (k + 1))) nh
        have s7_10 := (s8.trans s9).trans s10
        have hhigh : RowAt (upd (upd (upd H17 lc (.lst ((q4.map V.ref).take k ++ [V.ref t]))) ld (.lst ((q4.map V.ref).drop (k + 1)))) hh (.lst ((q4.map V.ref).take k ++ [V.ref t] ++ (q4.map V.ref).drop (k + 1)))) hh (higher mj k e dd) := by
          obtain ⟨q7, h71, h72⟩ := hrow7
          have eq7 : q7 = q4 := by
            rw [hq7] at h71
            injection h71 with h71
            injection h71 with h71
            exact ((List.map_inj_right (fun a b z => by injection z)).mp h71).symm
          subst eq7
          refine ⟨q7.take k ++ [t] ++ q7.drop (k + 1), by rw [upd_same]; simp [List.map_take, List.map_drop], ?_⟩
          have h73 := paired_imp (fun _ q e2 => s7_10 _ _ e2) h72
          unfold higher
          exact paired_app (paired_app (paired_tk k h73) (.cons (s7_10 _ _ ht) .nil)) (paired_dr (k + 1) h73)
        have hrow10 := hrow7.same s7_10
        have hq10 := s7_10 _ _ hq7
        have f18 := f17.trans (FV.of s7_10)
        have sb18 := sb17.trans (Ov.Same.but s7_10)
        have hv18 := hv17.same s7_10
        clear s8 s9 s10 s7_10
        generalize upd (upd (upd H17 lc (.lst ((q4.map V.ref).take k ++ [V.ref t]))) ld (.lst ((q4.map V.ref).drop (k + 1)))) hh (.lst ((q4.map V.ref).take k ++ [V.ref t] ++ (q4.map V.ref).drop (k + 1))) = H18 at hhigh hrow10 hq10 f18 sb18 hv18
        -- for other in [..]
        refine ⟨_, rfl, _, rfl, _, rfl, _, rfl, rj, _, rfl, SqL.of hq10, fun ra nra => ?_⟩
        rw [cutV_take]
        have s11 := same_upd (o := .lst ((q4.map V.ref).take k)) nra
        refine ⟨_, rfl, _, rfl, _, _, rfl, rfl, _, rfl, rj, _, rfl, SqL.of (s11 _ _ hq10), fun rb nrb => ?_⟩
        rw [ek, cutV_drop]
        have s12' := same_upd (o := .lst ((q4.map V.ref).drop (k + 1))) nrb
        refine ⟨ra, rb, _, _, rfl, rfl, s12' _ _ upd_same, upd_same, Nat.le_of_lt (small1000 (by simp only [List.length_take, List.length_drop, List.length_map]; omega)), fun rr nrr => ?_⟩
        have s13' := same_upd (o := .lst ((q4.map V.ref).take k ++ (q4.map V.ref).drop (k + 1))) nrr
        refine ⟨by show 2 ≤ sizeLine; decide, fun ol nol => ?_⟩
        have s14' := same_upd (o := .lst [V.ref hh, V.ref rr]) nol
        have s18_ := ((s11.trans s12').trans s13').trans s14'
        have hrem : RowAt (upd (upd (upd (upd H18 ra (.lst ((q4.map V.ref).take k))) rb (.lst ((q4.map V.ref).drop (k + 1)))) rr (.lst ((q4.map V.ref).take k ++ (q4.map V.ref).drop (k + 1)))) ol (.lst [V.ref hh, V.ref rr])) rr (removed mj k) := by
          obtain ⟨q7, h71, h72⟩ := hrow10
          have eq7 : q7 = q4 := by
            rw [hq10] at h71
            injection h71 with h71
            injection h71 with h71
            exact ((List.map_inj_right (fun a b z => by injection z)).mp h71).symm
          subst eq7
          refine ⟨q7.take k ++ q7.drop (k + 1), s14' _ _ (by rw [upd_same]; simp [List.map_take, List.map_drop]), ?_⟩
          have h73 := paired_imp (fun _ q e2 => s18_ _ _ e2) h72
          unfold removed
          exact paired_app (paired_tk k h73) (paired_dr (k + 1) h73)
        have hhigh2 := hhigh.same s18_
        have hol := upd_same (H := upd (upd (upd H18 ra (.lst ((q4.map V.ref).take k))) rb (.lst ((q4.map V.ref).drop (k + 1)))) rr (.lst ((q4.map V.ref).take k ++ (q4.map V.ref).drop (k + 1)))) (a := ol) (o := .lst [V.ref hh, V.ref rr])
        have f19 := f18.trans (FV.of s18_)
        have sb19 := sb18.trans (Ov.Same.but s18_)
        have hv19 := hv18.same s18_
        clear s11 s12' s13' s14' s18_
        generalize upd (upd (upd (upd H18 ra (.lst ((q4.map V.ref).take k))) rb (.lst ((q4.map V.ref).drop (k + 1)))) rr (.lst ((q4.map V.ref).take k ++ (q4.map V.ref).drop (k + 1)))) ol (.lst [V.ref hh, V.ref rr]) = H19 at hrem hhigh2 hol f19 sb19 hv19
        have okj := prev_ok ok il z j
        rw [emj] at okj
        have rokj := rowOk_prev ok il z j
        rw [emj] at rokj
        have shw : ∀ (g : Int) (m' : Bs), Worse mj m' → showB ws W il z g (chg (tabs il W ws z z.length) j m') = false := fun g m' hw => show_worse ok il hz g hj (by rw [emj]; exact hw)
        refine ⟨ol, rfl, ⟨_, SqL.of hol⟩, ?_⟩
        refine for_list (K := K) (a := ol) (xs := [V.ref hh, V.ref rr]) (fun i σ H' => σ[4]? = some (some (.ref tp)) ∧ σ[2]? = some (some (.str z)) ∧ σ[5]? = some (some (.ref ip)) ∧ σ[12]? = some (some (.int j)) ∧ σ.length = 17 ∧ Same H19 H') ⟨rfl, rfl, rfl, rfl, rfl, .refl _⟩ (fun i σ H' _ h => SqL.of (h.2.2.2.2.2 _ _ hol)) ?_ ?_
        · rintro i x σ H20 hx ⟨g4, g2, g5, g12, gl, s20⟩
          obtain ⟨o, m', rfl, ho, hw, hok⟩ : ∃ (o : Addr) (m' : Bs), x = .ref o ∧ RowAt H20 o m' ∧ Worse mj m' ∧ RowOk ws (sgn z j) m' := by
            match i, hx with
            | 0, h => exact ⟨hh, _, (Option.some.inj h).symm, hhigh2.same s20, higher_worse dd0 okj.nd he, rowOk_sub rokj (by rw [higher_keys he]; exact List.Sublist.refl _)⟩
            | 1, h => exact ⟨rr, _, (Option.some.inj h).symm, hrem.same s20, removed_worse okj.nd he, rowOk_sub rokj (removed_keys he)⟩
            | _ + 2, h => simp at h
          have f20 := f19.trans (FV.of s20)
          have l4 : (σ.set 15 (some (.ref o)))[4]? = some (some (.ref tp)) := by rw [List.getElem?_set_ne (by decide)]; exact g4
          have l2 : (σ.set 15 (some (.ref o)))[2]? = some (some (.str z)) := by rw [List.getElem?_set_ne (by decide)]; exact g2
          have l5 : (σ.set 15 (some (.ref o)))[5]? = some (some (.ref ip)) := by rw [List.getElem?_set_ne (by decide)]; exact g5
          have l12 : (σ.set 15 (some (.ref o)))[12]? = some (some (.int j)) := by rw [List.getElem?_set_ne (by decide)]; exact g12
          have l15 : (σ.set 15 (some (.ref o)))[15]? = some (some (.ref o)) := List.getElem?_set_self (by omega)
          refine ⟨_, l4, _, l2, _, _, rfl, rfl, ⟨by decide, by decide, by decide⟩, _, _, rfl, rfl, ?_⟩
          dsimp only [tCons]
          refine e_chg (p := ip) (o := o) (ms := tabs il W ws z z.length) (m' := m') (at_ := j) l5 l12 l15 (TabIn.fv hI6 f20) ho (by omega) (by omega) fun H21 r s21 hT21 => ?_
          refine ⟨tp, r, ws, W, il, z, _, chg (tabs il W ws z z.length) j m', rfl, (BandAt.fv hb6 f20).same s21, ok, hz, hT21, by rw [chg_len (by omega)]; exact lms, fun i m h => ?_, fun H22 s22 => ⟨_, _, rfl, rfl, _, rfl, ?_⟩⟩
          · by_cases c : i = j
            · subst c
              rw [chg_at (by omega)] at h
              rw [← Option.some.inj h]
              exact hok
            · rw [chg_ne (by omega) c] at h
              exact roks i m h
          · rw [shw _ _ hw]
            exact iteF ⟨l4, l2, l5, l12, by rw [List.length_set]; exact gl, (s20.trans s21).trans s22⟩
        · rintro σ H20 ⟨g4, g2, g5, g12, gl, s20⟩
          exact fin σ H20 g4 g2 g5 (f19.trans (FV.of s20)) (sb19.trans (Ov.Same.but s20)) ((hv19.same s20).mono (by omega)))
end
end K42

set_option Elab.async false
set_option linter.all false
set_option maxRecDepth 100000
set_option maxHeartbeats 4000000
namespace K42
open PySem PySem.Spec PyProof.Rows L2 He Ov
/-! ### the band of «ab» and «ba», the text «ab» sixty times -/
def wsC : List Str := ["ab", "ba"]
def zC : Str := repS "ab" 60
theorem okC : WordsOk wsC 2 := ⟨by decide, by decide, by decide +kernel, by decide, by decide, by decide, by decide +kernel, by unfold Abc; decide +kernel⟩
theorem mkC : MarkOk zC := ⟨by decide +kernel, by decide +kernel, by unfold Abc; decide +kernel⟩
theorem lenC : zC.length = 120 := by decide +kernel
theorem agrA : agr wsC 97 = [(0, 0), (1, 1)] := by decide +kernel
theorem agrB : agr wsC 98 = [(0, 1), (1, 0)] := by decide +kernel
theorem sgnA : ∀ i : Fin 60, sgn zC (2 * i.val) = 97 ∧ sgn zC (2 * i.val + 1) = 98 := by decide +kernel
def rowA (j : Int) : Bs := [((0, 0), j + 1), ((1, 1), j + 1)]
def rowB (j : Int) : Bs := [((0, 1), j + 1), ((1, 0), j + 2)]
theorem stepB (a : Nat) (j : Int) : stepG (fun k => minO (some2 2 true (a + 1) (rowA j) k)) [(0, 1), (1, 0)] = rowB j := by
  have e1 : some2 2 true (a + 1) (rowA j) (0, 1) = [j + 1, j + 1 + 1] := by
    unfold some2 rowA one2
    simp
  have e2 : some2 2 true (a + 1) (rowA j) (1, 0) = [j + 1 + 1, j + 1 + 1] := by
    unfold some2 rowA one2
    simp
  have m1 : minO (some2 2 true (a + 1) (rowA j) (0, 1)) = some (j + 1) := by
    rw [e1]
    exact minO_of (by simp) (by intro y hy; simp at hy; omega)
  have m2 : minO (some2 2 true (a + 1) (rowA j) (1, 0)) = some (j + 2) := by
    rw [e2]
    exact minO_of (by simp; omega) (by intro y hy; simp at hy; omega)
  rw [stepG_some (f := fun k => minO (some2 2 true (a + 1) (rowA j) k)) m1, stepG_some (f := fun k => minO (some2 2 true (a + 1) (rowA j) k)) m2]; rfl
theorem stepA (a : Nat) (j : Int) : stepG (fun k => minO (some2 2 true (a + 1) (rowB j) k)) [(0, 0), (1, 1)] = rowA (j + 1) := by
  have e1 : some2 2 true (a + 1) (rowB j) (0, 0) = [j + 1 + 1, j + 2 + 1] := by
    unfold some2 rowB one2
    simp
  have e2 : some2 2 true (a + 1) (rowB j) (1, 1) = [j + 1 + 1, j + 2] := by
    unfold some2 rowB one2
    simp
  have m1 : minO (some2 2 true (a + 1) (rowB j) (0, 0)) = some (j + 1 + 1) := by
    rw [e1]
    exact minO_of (by simp) (by intro y hy; simp at hy; omega)
  have m2 : minO (some2 2 true (a + 1) (rowB j) (1, 1)) = some (j + 1 + 1) := by
    rw [e2]
    exact minO_of (by simp) (by intro y hy; simp at hy; omega)
  rw [stepG_some (f := fun k => minO (some2 2 true (a + 1) (rowB j) k)) m1, stepG_some (f := fun k => minO (some2 2 true (a + 1) (rowB j) k)) m2]; rfl
theorem prevC0 : prev true 2 wsC zC 0 = [((0, 0), 1)] := by
  show stepG _ (agr wsC (sgn zC (2 * 0))) = _
  rw [(sgnA ⟨0, by decide⟩).1, agrA]
  decide +kernel
theorem prevC1 : prev true 2 wsC zC 1 = rowB 0 := by
  show stepG (fun k => minO (some2 2 true 1 (prev true 2 wsC zC 0) k)) (agr wsC (sgn zC (2 * 0 + 1))) = _
  rw [(sgnA ⟨0, by decide⟩).2, agrB, prevC0]
  decide +kernel
theorem prevC : ∀ j : Nat, j < 60 → prev true 2 wsC zC (2 * j + 1) = rowB j ∧ (1 ≤ j → prev true 2 wsC zC (2 * j) = rowA j)
  | 0, _ => ⟨prevC1, fun h => absurd h (by decide)⟩
  | j + 1, h => by
    obtain ⟨ih, _⟩ := prevC j (by omega)
    have hA : prev true 2 wsC zC (2 * (j + 1)) = rowA ((j + 1 : Nat) : Int) := by
      show stepG (fun k => minO (some2 2 true (2 * j + 1 + 1) (prev true 2 wsC zC (2 * j + 1)) k)) (agr wsC (sgn zC (2 * (j + 1)))) = _
      rw [(sgnA ⟨j + 1, h⟩).1, agrA, ih, stepA]; rfl
    refine ⟨?_, fun _ => hA⟩
    show stepG (fun k => minO (some2 2 true (2 * (j + 1) + 1) (prev true 2 wsC zC (2 * (j + 1))) k)) (agr wsC (sgn zC (2 * (j + 1) + 1))) = _
    rw [(sgnA ⟨j + 1, h⟩).2, agrB, hA, stepB]
/-- the first entry of each cell -/
theorem headC {i : Nat} (h : i < 120) : ∃ e r, prev true 2 wsC zC i = e :: r := by
  rcases Nat.mod_two_eq_zero_or_one i with c | c
  · by_cases h0 : i = 0
    · subst h0; exact ⟨_, _, prevC0⟩
    · have e : i = 2 * (i / 2) := by omega
      rw [e, (prevC (i / 2) (by omega)).2 (by omega)]
      exact ⟨_, _, rfl⟩
  · have e : i = 2 * (i / 2) + 1 := by omega
    rw [e, (prevC (i / 2) (by omega)).1]
    exact ⟨_, _, rfl⟩
theorem lastC (g : Int) : lastB 2 true g (prev true 2 wsC zC 119) = decide (g ≤ 60) := by
  have e : prev true 2 wsC zC 119 = rowB ((59 : Nat) : Int) := (prevC 59 (by decide)).1
  rw [e]
  exact last_le (least := 60) (by decide) (by decide)
end K42

set_option Elab.async false
set_option linter.all false
set_option maxRecDepth 100000
set_option maxHeartbeats 4000000
namespace K42
open PySem PySem.Spec PyProof.Rows L2 He Ov
def spLaw (K : PySem.W.Frag) : Sp := fun vs H Q _ => ∃ (a : Addr) (ns : List Int), vs = [.ref a] ∧ SqL K H a (ns.map V.int) ∧ ns.length ≤ 63 ∧ ∀ H', Q (.bl true) H'
section
variable {P : Program} {w : World} {K : PySem.W.Frag} {mg : Str → Option Value} {base : Heap}
abbrev N_law : List Str := ["script", "k", "vat", "most", "words", "is_line", "size", "tape", "mark", "item", "at", "one", "row", "other", "goal"]
theorem sc_law : FnScope N_law ["script"] (defScope s_law) := ⟨rfl, rfl, rfl, by decide +kernel, rfl, by decide +kernel, by decide +kernel⟩
theorem b_law : BindsX "law" "law" s_law ["script"] := fun _ _ _ _ _ _ us hl => match us, hl with | [_], _ => rfl
theorem ok_law (T : Txt K mg) {fd : FuncData} (F : Fun K "law" "law" s_law (ga K "law") fd) : FnG P w K mg base CX0 8 (ga K "law") fd ["script"] (spLaw K) := by
  refine okG F sc_law (fun vs H Q E h => ?_) (fun cdv A outer s H vs Q E hgu hr h => ?_)
  · obtain ⟨a, ns, rfl, _⟩ := h
    rfl
  · obtain ⟨a, ns, rfl, hs, h63, q⟩ := h
    refine ⟨_, pss_cons (ps_for PassesOwn.never rfl (pi_range1 (by rfl) T.z_range (pa_cons (pe_callB (call_max2 rfl) (by rfl) T.z_max (by decide +kernel) (pa_cons pe_int (pa_cons (pe_callB (call_min2 rfl) (by rfl) T.z_min (by decide +kernel) (pa_cons pe_int (pa_cons (pe_callB call_len_seq (by rfl) T.z_len PySem.boot_len (pa_cons (pv 0) pa_nil)) pa_nil))) pa_nil))) pa_nil)) (pg_name (i := 1) sc_law.nd rfl (.inl rfl))
        (pss_cons (ps_set (i := 2) sc_law.nd rfl (.inl rfl) (pe_callC (ok_vat T) (hr.mono (by decide)) (by rfl) pass0 (pa_cons (pv 0) (pa_cons (pv 1) pa_nil))))
        (pss_one (ps_for PassesOwn.never rfl (pi_list (pe_slice sl_list (pe_lst (pa_cons pe_int (pa_cons pe_int pa_nil))) po_none (po_some (pe_op op_add pe_int (pe_callTy call_int1 (by rfl) T.z_int (by decide +kernel) (pa_cons (pe_cmpR op_eq (pv 1) pe_int (nomark _)) pa_nil)))))) (pg_name (i := 3) sc_law.nd rfl (.inl rfl))
          (pss_cons (ps_set (i := 4) sc_law.nd rfl (.inl rfl) (pe_callC (ok_lw T) (hr.mono (by decide)) (by rfl) pass0 (pa_cons (pv 2) (pa_cons (pe_op op_add pe_int (pe_callC (ok_sip T) (hr.mono (by decide)) (by rfl) pass0 (pa_cons (pv 2) (pa_cons pe_int pa_nil)))) (pa_cons pe_int pa_nil)))))
          (pss_cons (ps_set (i := 5) sc_law.nd rfl (.inl rfl) (pe_cmpR op_eq (pe_callC (ok_sip T) (hr.mono (by decide)) (by rfl) pass0 (pa_cons (pv 2) (pa_cons pe_int pa_nil))) pe_int (nomark _)))
          (pss_cons (ps_set (i := 6) sc_law.nd rfl (.inl rfl) (pe_ix ix_list (pe_lst (pa_cons (pv 3) (pa_cons (pe_op op_add pe_int (pe_callC (ok_sip T) (hr.mono (by decide)) (by rfl) pass0 (pa_cons (pv 2) (pa_cons (pv 3) pa_nil)))) pa_nil))) (pe_callC (ok_sip T) (hr.mono (by decide)) (by rfl) pass0 (pa_cons (pv 2) (pa_cons pe_int pa_nil))) (fun _ _ => rfl)))
          (pss_one (ps_if (pt_not (pt_val (pe_callCG (ok_rt T) hgu hr (by rfl) pass0 (pa_cons (pv 2) (pa_cons (pv 4) (pa_cons (pe_callC (ok_mk T) (hr.mono (by decide)) (by rfl) pass0 (pa_cons (pv 2) (pa_cons (pv 4) (pa_cons (pv 6) (pa_cons (pv 5) pa_nil))))) (pa_cons (pv 5) pa_nil))))))) (pss_one ps_never) pss_nil)))))))))
      (pss_cons (ps_asg (pe_tup (pa_cons (pe_callC (ok_md T) (hr.mono (by decide)) (by rfl) pass0 (pa_cons (pe_lst (pa_cons pe_str (pa_cons pe_str pa_nil))) (pa_cons pe_bl pa_nil))) (pa_cons (pe_op op_repStr pe_str pe_int) pa_nil))) (pg_tup rfl (pgs_cons (pg_name (i := 7) sc_law.nd rfl (.inr rfl)) (pgs_cons (pg_name (i := 8) sc_law.nd rfl (.inr rfl)) pgs_nil))))
      (pss_cons (ps_set (i := 9) sc_law.nd rfl (.inr rfl) (pe_callC (ok_tb T) (hr.mono (by decide)) (by rfl) pass0 (pa_cons (pv 7) (pa_cons (pv 8) pa_nil))))
      (pss_cons (ps_if (PW.pt (pw_or (pt_cmpR op_ne (pe_callB call_len_seq (by rfl) T.z_len PySem.boot_len (pa_cons (pv 9) pa_nil)) pe_int (nomark _)) (pw_or1 (pt_cmpR (op_neD hr.units) (pe_lc (own := [("goal", 14)]) (te := tCall (spShows K) [] E0 (tCons (tVar 7) (tCons (tVar 8) (tCons (tVar 14) (tCons (tVar 9) tNil))))) rfl sc_law.nd (pi_tup (pe_tup (pa_cons pe_int (pa_cons pe_int pa_nil)))) (blkOk_by (N := N_law) (sc := defScope s_law) (by decide +kernel)) (fun _ _ _ _ _ => pg_name (i := 14) sc_law.nd rfl (.inl rfl)) (fun _ _ _ _ _ => pts_nil)
            (fun _ _ _ _ _ => pe_callC (ok_sh T) (hr.mono (by decide)) (by rfl) pass0 (pa_cons (pv 7) (pa_cons (pv 8) (pa_cons (pv 14) (pa_cons (pv 9) pa_nil)))))) (pe_lst (pa_cons pe_bl (pa_cons pe_bl pa_nil))) (nomark _))))) (pss_one ps_never) pss_nil)
      (pss_cons (ps_set (i := 10) sc_law.nd rfl (.inl rfl) (pe_callC (ok_sip T) (hr.mono (by decide)) (by rfl) pass0 (pa_cons (pe_callC (ok_vat T) (hr.mono (by decide)) (by rfl) pass0 (pa_cons (pv 0) (pa_cons pe_int pa_nil))) (pa_cons pe_int pa_nil))))
      (pss_cons (ps_par (i := 11) (j := 12) (by rfl) sc_law.nd rfl rfl (by decide) rfl rfl (pa_cons (pe_ix ix_list (pe_ix ix_list (pv 9) (pv 10) (fun _ _ => rfl)) pe_int (fun _ _ => rfl)) (pa_cons (pe_ix ix_list (pv 9) (pv 10) (fun _ _ => rfl)) pa_nil)) (by rfl))
      (pss_cons (ps_for PassesOwn.never rfl (pi_list (pe_lst (pa_cons (pe_op op_cat (pe_lst (pa_cons (pe_tup (pa_cons (pe_ix ix_tup (pv 11) pe_int (fun _ _ => rfl)) (pa_cons (pe_ix ix_tup (pv 11) pe_int (fun _ _ => rfl)) (pa_cons (pe_op op_add (pe_ix ix_tup (pv 11) pe_int (fun _ _ => rfl)) pe_int) pa_nil)))) pa_nil)) (pe_slice sl_list (pv 12) (po_some pe_int) po_none)) (pa_cons (pe_slice sl_list (pv 12) (po_some pe_int) po_none) pa_nil)))) (pg_name (i := 13) sc_law.nd rfl (.inl rfl))
        (pss_one (ps_if (pt_cmpR op_notBl (pe_callC (ok_sh T) (hr.mono (by decide)) (by rfl) pass0 (pa_cons (pv 7) (pa_cons (pv 8) (pa_cons (pe_op op_sub pe_int (pe_op op_pow pe_int pe_int)) (pa_cons (pe_op op_cat (pe_op op_cat (pe_slice sl_list (pv 9) po_none (po_some (pv 10))) (pe_lst (pa_cons (pv 13) pa_nil))) (pe_slice sl_list (pv 9) (po_some (pe_op op_add (pv 10) pe_int)) po_none)) pa_nil))))) pe_bl (nomark _)) (pss_one ps_never) pss_nil)))
      (pss_one (ps_ret pe_bl)))))))), ?_⟩
    have lm : (ns.map V.int).length = ns.length := List.length_map ..
    refine ⟨_, rfl, a, _, rfl, .inl hs, _, _, rfl, _, _, rfl, ?_⟩
    generalize hc : (if (if ((ns.map V.int).length : Int) < 2 then ((ns.map V.int).length : Int) else 2) > 1 then (if ((ns.map V.int).length : Int) < 2 then ((ns.map V.int).length : Int) else 2) else 1) = cnt
    have c3 : 1 ≤ cnt ∧ cnt ≤ 2 := by
      rw [← hc, lm]
      split <;> split <;> omega
    refine ⟨_, rfl, by omega, by omega, ?_⟩
    refine for_range (lo := 0) (n := cnt.toNat) (fun i σ H' => (∃ v1 v2 v3 v4 v5 v6, σ = [some (.ref a), v1, v2, v3, v4, v5, v6, none, none, none, none, none, none, none, none]) ∧ Same H H') ⟨⟨_, _, _, _, _, _, rfl⟩, .refl _⟩ ?_ ?_
    · rintro k σ H0 hk ⟨⟨v1, v2, v3, v4, v5, v6, rfl⟩, s0⟩
      rw [Int.zero_add]
      have hs0 := s0.seq hs
      refine ⟨_, rfl, _, rfl, a, ns, k, rfl, hs0, by omega, fun H1 v s1 nv hv => ?_⟩
      have nvH : H v = none := s0.free nv
      have s01 := s0.trans s1
      refine ⟨by show 2 ≤ sizeLine; decide, fun l nl => ?_⟩
      have sl := same_upd (o := .lst [V.int 10, V.int 24]) nl
      have hvl := hv.same sl
      have s02 := s01.trans sl
      have hl := upd_same (H := H1) (a := l) (o := .lst [V.int 10, V.int 24])
      clear sl
      generalize upd H1 l (.lst [V.int 10, V.int 24]) = H2 at hvl s02 hl
      obtain ⟨ms, hms, hm⟩ : ∃ ms : List Int, (∀ m ∈ ms, m = 10 ∨ m = 24) ∧ ms.length ≤ 2 ∧ cutV [V.int 10, V.int 24] none (some (1 + (if decide (V.int (k : Int) = V.int 0) = true then 1 else 0))) = ms.map V.int := by
        by_cases c : k = 0
        · subst c
          exact ⟨[10, 24], by simp, by decide, rfl⟩
        · have e : decide (V.int (k : Int) = V.int 0) = false := decide_eq_false fun e => c (by injection e; omega)
          rw [e]
          exact ⟨[10], by simp, by decide, rfl⟩
      refine ⟨_, rfl, rfl, .inr ⟨_, rfl, _, _, rfl, rfl, _, rfl, l, _, rfl, SqL.of hl, fun p np => ⟨p, rfl, ⟨_, SqL.of upd_same⟩, ?_⟩⟩⟩
      obtain ⟨lms, em⟩ := hm
      have sp := same_upd (o := .lst (ms.map V.int)) np
      have hp := upd_same (H := H2) (a := p) (o := .lst (ms.map V.int))
      have e2 : upd H2 p (.lst (cutV [V.int 10, V.int 24] none (some (1 + (if decide (V.int (k : Int) = V.int 0) = true then 1 else 0))))) = upd H2 p (.lst (ms.map V.int)) := by rw [em]
      show ∃ W : Nat → Nat → L2.St → Hp → Prop, (∃ m, W 0 m _ (upd H2 p (.lst (cutV [V.int 10, V.int 24] none (some (1 + (if decide (V.int (k : Int) = V.int 0) = true then 1 else 0))))))) ∧ _
      rw [e2]
      have pv' : p ≠ v := vat_ne hvl np
      have hv3 := hvl.same sp
      have s03 := s02.trans sp
      clear sp e2
      generalize upd H2 p (.lst (ms.map V.int)) = H3 at hp hv3 s03
      refine for_list (K := K) (a := p) (xs := ms.map V.int) (fun i σ H' => (∃ v3 v4 v5 v6, σ = [some (.ref a), some (.int k), some (.ref v), v3, v4, v5, v6, none, none, none, none, none, none, none, none]) ∧ SameBut v H3 H' ∧ Vat H' v (i * 1000)) ⟨⟨_, _, _, _, rfl⟩, .refl _ _, by simpa using hv3⟩ (fun i σ H' _ h => SqL.of (h.2.1 _ _ pv' hp)) ?_ ?_
      · rintro i x σ H4 hx ⟨⟨v3, v4, v5, v6, rfl⟩, s4, hv4⟩
        rw [List.getElem?_map] at hx
        obtain ⟨most, hmost, rfl⟩ := Option.map_eq_some_iff.mp hx
        have il2 : i < 2 := by
          have := (List.getElem?_eq_some_iff.mp hmost).1
          omega
        have m40 : 1 ≤ most ∧ most ≤ 24 := by
          rcases hms most (List.mem_of_getElem? hmost) with e | e <;> omega
        refine ⟨_, rfl, _, rfl, v, 6, i * 1000, rfl, hv4, by omega, by decide, by decide, fun H5 r r0 r1 s5 hv5 => ⟨_, _, rfl, rfl, ?_⟩⟩
        have ew : 1 + r = (((1 + r).toNat : Nat) : Int) := by omega
        refine ⟨v, (1 + r).toNat, i * 1000 + 1, 4, congrArg (fun x => [V.ref v, V.int x, V.int 4]) ew, by decide, by decide, hv5, by omega, by omega, by omega, fun H6 wl ws s6 hv6 nwl hwl ok => ?_⟩
        have wlv : wl ≠ v := vat_ne hv5 nwl
        refine ⟨_, rfl, v, 2, i * 1000 + 61, rfl, hv6, by omega, by decide, by decide, fun H7 r2 r20 r21 s7 hv7 => ⟨rfl, ?_⟩⟩
        have hwl7 := s7 _ _ wlv hwl
        refine ⟨_, rfl, _, rfl, _, rfl, v, most, i * 1000 + 62, rfl, hv7, by omega, by omega, by omega, fun H8 r3 r30 r31 s8 hv8 => ⟨_, _, rfl, rfl, by show 2 ≤ sizeLine; decide, fun L nL => ?_⟩⟩
        have sL := same_upd (o := .lst [V.int most, V.int (1 + r3)]) nL
        have hL := upd_same (H := H8) (a := L) (o := .lst [V.int most, V.int (1 + r3)])
        have vL : L ≠ v := vat_ne hv8 nL
        have hv9 := hv8.same sL
        have hwl9 := sL _ _ (s8 _ _ wlv hwl7)
        have s9 : SameBut v H4 (upd H8 L (.lst [V.int most, V.int (1 + r3)])) := (((s5.trans s6).trans s7).trans s8).trans (Ov.Same.but sL)
        clear sL
        generalize upd H8 L (.lst [V.int most, V.int (1 + r3)]) = H9 at hL hv9 hwl9 s9
        refine ⟨_, rfl, v, 2, i * 1000 + 63, rfl, hv9, by omega, by decide, by decide, fun H10 r4 r40 r41 s10 hv10 => ?_⟩
        have hL10 := s10 _ _ vL hL
        have hwl10 := s10 _ _ wlv hwl9
        obtain ⟨size, hsz, z1, z2⟩ : ∃ size : Nat, atI [V.int most, V.int (1 + r3)] r4 = some (.int size) ∧ 1 ≤ size ∧ size ≤ 24 := by
          have h4 : r4 = 0 ∨ r4 = 1 := by omega
          rcases h4 with rfl | rfl
          · exact ⟨most.toNat, by show some (V.int most) = some (V.int ((most.toNat : Nat) : Int)); rw [show ((most.toNat : Nat) : Int) = most by omega], by omega, by omega⟩
          · exact ⟨(1 + r3).toNat, by show some (V.int (1 + r3)) = some (V.int (((1 + r3).toNat : Nat) : Int)); rw [show (((1 + r3).toNat : Nat) : Int) = 1 + r3 by omega], by omega, by omega⟩
        refine ⟨L, _, r4, .int size, rfl, rfl, SqL.of hL10, hsz, ?_⟩
        refine ⟨_, rfl, _, rfl, _, rfl, _, rfl, _, rfl, _, rfl, v, wl, ws, (1 + r).toNat, size, i * 1000 + 64, _, rfl, hv10, by omega, hwl10, wlv, ok, z1, by omega, fun H11 z s11 hv11 lz az => ?_⟩
        refine ⟨_, rfl, v, wl, ws, (1 + r).toNat, i * 1000 + 564, _, z, rfl, hv11.mono (by omega), by omega, s11 _ _ wlv hwl10, ok, ⟨by omega, by omega, az⟩, fun H12 f12 hv12 s12 => ⟨true, rfl, iteF ?_⟩⟩
        exact ⟨⟨_, _, _, _, rfl⟩, s4.trans (((s9.trans s10).trans s11).trans s12), hv12.mono (by omega)⟩
      · rintro σ H4 ⟨⟨v3, v4, v5, v6, rfl⟩, s4, hv4⟩
        exact ⟨⟨_, _, _, _, _, _, rfl⟩, fun b o e => s4 b o (ne_of_none e nvH) (s03 b o e)⟩
    · rintro σ H0 ⟨⟨v1, v2, v3, v4, v5, v6, rfl⟩, s0⟩
      have lC := lenC
      have lms := tabs_len true 2 wsC zC zC.length
      have roks := rowOk_tabs okC true zC zC.length
      refine ⟨by show 2 ≤ sizeLine; decide, fun l nl => ⟨l, wsC, 2, true, rfl, upd_same, okC, fun H1 tp s1 hb => ⟨"ab", 60, rfl, rfl, by decide, by decide, by decide, by decide, by decide +kernel, by show 2 ≤ sizeLine; decide, fun T0 nT0 => ⟨T0, _, rfl, SqT.of upd_same, rfl, _, _, rfl, _, _, rfl, rfl, ?_⟩⟩⟩⟩
      have sT := same_upd (o := .tup [V.ref tp, V.str (repS "ab" 60)]) nT0
      have hb1 := hb.same sT
      have s02 : Same H (upd H1 T0 (.tup [V.ref tp, V.str (repS "ab" 60)])) := ((s0.trans (same_upd nl)).trans s1).trans sT
      clear sT
      generalize upd H1 T0 (.tup [V.ref tp, V.str (repS "ab" 60)]) = H2 at hb1 s02
      refine ⟨_, rfl, _, rfl, tp, wsC, 2, true, zC, rfl, hb1, okC, mkC, fun H3 ip s3 hT => ?_⟩
      have hb3 := hb1.same s3
      have hI3 := TabAt.in_ hT
      obtain ⟨rs, hI, hrs⟩ := id hI3
      have lrs := paired_len hrs
      refine ⟨_, rfl, ip, _, rfl, .inl (SqL.of hI), rfl, false, ?_, iteF ?_⟩
      · rw [List.length_map, lrs, lms, lC]; rfl
      dsimp only [tTest, tOp]
      refine e_shows (b := tp) (p := ip) (ws := wsC) (W := 2) (il := true) (z := zC) (ms := tabs true 2 wsC zC zC.length) [60, 61] (by decide) (by decide) (by decide) (by show 14 < 15; decide) rfl rfl rfl (fun _ => rfl) hb3 okC mkC hI3 lms roks (by decide) (fun R hR => ⟨by show 2 ≤ sizeLine; decide, fun t nt => hR t _ (same_upd nt) upd_same⟩) fun H4 D2 s4 hD2 => ?_
      have e2 : ([60, 61].map fun g => showB wsC 2 true zC g (tabs true 2 wsC zC zC.length)) = [true, false] := by
        show [showB wsC 2 true zC 60 _, showB wsC 2 true zC 61 _] = _
        rw [show_tabs okC true mkC, show_tabs okC true mkC, lC, lastC, lastC]; rfl
      rw [e2] at hD2
      refine ⟨by show 2 ≤ sizeLine; decide, fun l3 nl3 => ⟨_, _, .lst (SqL.of ((same_upd nl3) _ _ hD2)) (dp_bools [true, false]), .lst (SqL.of upd_same) (dp_bools [true, false]), shaped_bools _ (by decide), shaped_bools _ (by decide), _, rfl, iteF ?_⟩⟩
      have s35 : Same H3 (upd H4 l3 (.lst [V.bl true, V.bl false])) := s4.trans (same_upd nl3)
      clear s4 hD2
      generalize upd H4 l3 (.lst [V.bl true, V.bl false]) = H5 at s35
      have hs5 := ((s02.trans s3).trans s35).seq hs
      refine ⟨_, rfl, a, ns, 0, rfl, hs5, by decide, fun H6 v s6 nv hv => ⟨v, 120, 0, rfl, hv, by decide, by decide, by decide, fun H7 at' a0 a1 s7 hv7 => ?_⟩⟩
      obtain ⟨j, rfl⟩ : ∃ j : Nat, at' = j := ⟨at'.toNat, by omega⟩
      have hj : j < 120 := by omega
      have s57 : Same H5 H7 := SameBut.same s6 nv s7
      have s37 := s35.trans s57
      have hb7 := hb3.same s37
      have hI7 := hI3.same s37
      obtain ⟨rs7, hp7, hrs7⟩ := id hI7
      have lr7 := paired_len hrs7
      obtain ⟨rj, hrj⟩ : ∃ r, rs7[j]? = some r := ⟨_, List.getElem?_eq_getElem (by omega)⟩
      obtain ⟨mj, hmj, hrow⟩ := paired_get hrs7 hrj
      have emj := msAt_get hmj
      rw [msAt_tabs true 2 wsC zC (show j < zC.length by omega)] at emj
      obtain ⟨e, er, hh⟩ := headC hj
      rw [emj] at hh
      have okj := prev_ok okC true zC j
      rw [emj] at okj
      have rokj := rowOk_prev okC true zC j
      rw [emj] at rokj
      have he : mj[0]? = some e := by rw [hh]; rfl
      obtain ⟨qj, hqj, hqjp⟩ := id hrow
      have lqj := paired_len hqjp
      obtain ⟨qk, hqk⟩ : ∃ q, qj[0]? = some q := ⟨_, List.getElem?_eq_getElem (by rw [lqj, hh]; simp)⟩
      obtain ⟨e', he', hqe⟩ := row_get (r := rj) hqjp hqk
      have ee : e' = e := by rw [he] at he'; exact (Option.some.inj he').symm
      subst ee
      have atj : atI (rs7.map V.ref) (j : Int) = some (.ref rj) := atI_nat (by rw [List.getElem?_map, hrj]; rfl)
      have lmj := okj.len
      refine ⟨_, rfl, _, rfl, ip, _, _, V.ref rj, rfl, rfl, SqL.of hp7, atj, rj, _, _, V.ref qk, rfl, rfl, SqL.of hqj, atI_nat (j := 0) (by rw [List.getElem?_map, hqk]; rfl), _, rfl, _, rfl, ip, _, _, V.ref rj, rfl, rfl, SqL.of hp7, atj, _, _, rfl, ?_⟩
      refine ⟨_, rfl, qk, _, _, _, rfl, rfl, SqT.of hqe, rfl, _, rfl, qk, _, _, _, rfl, rfl, SqT.of hqe, rfl, _, rfl, qk, _, _, _, rfl, rfl, SqT.of hqe, rfl, _, _, rfl, rfl, by show 3 ≤ sizeLine; decide, fun t nt => ⟨by show 1 ≤ sizeLine; decide, fun l1 nl1 => ?_⟩⟩
      have st := same_upd (o := .tup [V.int e'.1.1, V.int e'.1.2, V.int (e'.2 + 1)]) nt
      have sl1 := same_upd (o := .lst [V.ref t]) nl1
      have st1 := st.trans sl1
      refine ⟨_, rfl, _, rfl, rj, _, rfl, SqL.of (st1 _ _ hqj), fun ld nd => ?_⟩
      rw [cutV_from]
      have sld := same_upd (o := .lst ((qj.map V.ref).drop 1)) nd
      refine ⟨l1, ld, _, _, rfl, rfl, sld _ _ upd_same, upd_same, Nat.le_of_lt (small1000 (by simp only [List.length_drop, List.length_map, List.length_singleton]; omega)), fun ha nha => ?_⟩
      have sha := same_upd (o := .lst ([V.ref t] ++ (qj.map V.ref).drop 1)) nha
      have s7a := (st1.trans sld).trans sha
      refine ⟨_, rfl, _, rfl, rj, _, rfl, SqL.of (s7a _ _ hqj), fun hb' nhb => ?_⟩
      rw [cutV_from]
      have shb := same_upd (o := .lst ((qj.map V.ref).drop 1)) nhb
      refine ⟨by show 2 ≤ sizeLine; decide, fun ol nol => ?_⟩
      have sol := same_upd (o := .lst [V.ref ha, V.ref hb']) nol
      have s7o := (s7a.trans shb).trans sol
      have hol := upd_same (H := upd (upd (upd (upd (upd H7 t (.tup [V.int e'.1.1, V.int e'.1.2, V.int (e'.2 + 1)])) l1 (.lst [V.ref t])) ld (.lst ((qj.map V.ref).drop 1))) ha (.lst ([V.ref t] ++ (qj.map V.ref).drop 1))) hb' (.lst ((qj.map V.ref).drop 1))) (a := ol) (o := .lst [V.ref ha, V.ref hb'])
      have hqj' := paired_imp (fun _ q e2 => s7o _ _ e2) hqjp
      have rowA : RowAt (upd (upd (upd (upd (upd (upd H7 t (.tup [V.int e'.1.1, V.int e'.1.2, V.int (e'.2 + 1)])) l1 (.lst [V.ref t])) ld (.lst ((qj.map V.ref).drop 1))) ha (.lst ([V.ref t] ++ (qj.map V.ref).drop 1))) hb' (.lst ((qj.map V.ref).drop 1))) ol (.lst [V.ref ha, V.ref hb'])) ha (higher mj 0 e' 0) := by
        refine ⟨[t] ++ qj.drop 1, (shb.trans sol) _ _ (by rw [upd_same]; simp [List.map_drop]), ?_⟩
        have eh : higher mj 0 e' 0 = [(e'.1, e'.2 + 1)] ++ mj.drop 1 := by unfold higher; simp
        rw [eh]
        exact paired_app (.cons ((((sl1.trans sld).trans sha).trans shb).trans sol _ _ upd_same) .nil) (paired_dr 1 hqj')
      have rowB : RowAt (upd (upd (upd (upd (upd (upd H7 t (.tup [V.int e'.1.1, V.int e'.1.2, V.int (e'.2 + 1)])) l1 (.lst [V.ref t])) ld (.lst ((qj.map V.ref).drop 1))) ha (.lst ([V.ref t] ++ (qj.map V.ref).drop 1))) hb' (.lst ((qj.map V.ref).drop 1))) ol (.lst [V.ref ha, V.ref hb'])) hb' (removed mj 0) := by
        refine ⟨qj.drop 1, sol _ _ (by rw [upd_same]; simp [List.map_drop]), ?_⟩
        have eh : removed mj 0 = mj.drop 1 := by unfold removed; simp
        rw [eh]
        exact paired_dr 1 hqj'
      clear st sl1 st1 sld sha s7a shb sol hqj'
      generalize upd (upd (upd (upd (upd (upd H7 t (.tup [V.int e'.1.1, V.int e'.1.2, V.int (e'.2 + 1)])) l1 (.lst [V.ref t])) ld (.lst ((qj.map V.ref).drop 1))) ha (.lst ([V.ref t] ++ (qj.map V.ref).drop 1))) hb' (.lst ((qj.map V.ref).drop 1))) ol (.lst [V.ref ha, V.ref hb']) = H8 at s7o hol rowA rowB
      have shw : ∀ (g : Int) (m' : Bs), Worse mj m' → showB wsC 2 true zC g (chg (tabs true 2 wsC zC zC.length) j m') = false := fun g m' hw => show_worse okC true mkC g (by omega) (by rw [emj]; exact hw)
      refine ⟨ol, rfl, ⟨_, SqL.of hol⟩, ?_⟩
      refine for_list (K := K) (a := ol) (xs := [V.ref ha, V.ref hb']) (fun i σ H' => σ[7]? = some (some (.ref tp)) ∧ σ[8]? = some (some (.str zC)) ∧ σ[9]? = some (some (.ref ip)) ∧ σ[10]? = some (some (.int j)) ∧ σ.length = 15 ∧ Same H8 H') ⟨rfl, rfl, rfl, rfl, rfl, .refl _⟩ (fun i σ H' _ h => SqL.of (h.2.2.2.2.2 _ _ hol)) ?_ ?_
      · rintro i x σ H20 hx ⟨g4, g2, g5, g12, gl, s20⟩
        obtain ⟨o, m', rfl, ho, hw, hok⟩ : ∃ (o : Addr) (m' : Bs), x = .ref o ∧ RowAt H20 o m' ∧ Worse mj m' ∧ RowOk wsC (sgn zC j) m' := by
          match i, hx with
          | 0, h => exact ⟨ha, _, (Option.some.inj h).symm, rowA.same s20, higher_worse (Int.le_refl 0) okj.nd he, rowOk_sub rokj (by rw [higher_keys he]; exact List.Sublist.refl _)⟩
          | 1, h => exact ⟨hb', _, (Option.some.inj h).symm, rowB.same s20, removed_worse okj.nd he, rowOk_sub rokj (removed_keys he)⟩
          | _ + 2, h => simp at h
        have s720 := s7o.trans s20
        have l4 : (σ.set 13 (some (.ref o)))[7]? = some (some (.ref tp)) := by rw [List.getElem?_set_ne (by decide)]; exact g4
        have l2 : (σ.set 13 (some (.ref o)))[8]? = some (some (.str zC)) := by rw [List.getElem?_set_ne (by decide)]; exact g2
        have l5 : (σ.set 13 (some (.ref o)))[9]? = some (some (.ref ip)) := by rw [List.getElem?_set_ne (by decide)]; exact g5
        have l12 : (σ.set 13 (some (.ref o)))[10]? = some (some (.int j)) := by rw [List.getElem?_set_ne (by decide)]; exact g12
        have l15 : (σ.set 13 (some (.ref o)))[13]? = some (some (.ref o)) := List.getElem?_set_self (by omega)
        refine ⟨_, l4, _, l2, _, _, rfl, rfl, ⟨by decide, by decide, by decide⟩, _, _, rfl, rfl, ?_⟩
        dsimp only [tCons]
        refine e_chg (p := ip) (o := o) (ms := tabs true 2 wsC zC zC.length) (m' := m') (at_ := j) l5 l12 l15 (hI7.same s720) ho (by omega) (by omega) fun H21 r s21 hT21 => ?_
        refine ⟨tp, r, wsC, 2, true, zC, _, chg (tabs true 2 wsC zC zC.length) j m', rfl, (hb7.same s720).same s21, okC, mkC, hT21, by rw [chg_len (by omega)]; exact lms, fun i m h => ?_, fun H22 s22 => ⟨_, _, rfl, rfl, _, rfl, ?_⟩⟩
        · by_cases c : i = j
          · subst c
            rw [chg_at (by omega)] at h
            rw [← Option.some.inj h]
            exact hok
          · rw [chg_ne (by omega) c] at h
            exact roks i m h
        · rw [shw _ _ hw]
          exact iteF ⟨l4, l2, l5, l12, by rw [List.length_set]; exact gl, (s20.trans s21).trans s22⟩
      · rintro σ H20 _
        exact q H20
end
end K42

set_option Elab.async false
set_option linter.all false
set_option maxRecDepth 100000
set_option maxHeartbeats 0
namespace K42
open PySem PySem.Spec PyProof.Rows L2 He Ov
def lo0 : List PySem.Str := ["_wall", "StampError", "InvalidStamps", "InvalidText", "InvalidStrip", "InvalidStamping", "InvalidName", "NotPossible", "MOST_CELLS_tables", "LETTERS_tables", "LINE", "is_plain_text", "need_text", "Grid", "later_bounds", "table_of", "is_whole_number", "is_row", "is_row_tables", "is_table", "bounds_in", "follows", "shows", "LETTERS_stamps", "BLANK", "MOST_CELLS_stamps", "MOST_WIDTH", "MOST_LETTERS", "is_row_stamps", "is_text"]
def lo1 : List PySem.Str := ["is_strip", "are_words", "pressed", "Stamps", "states_of", "goes_on", "cheapest", "ended", "best_before", "next_cell", "walk", "row_parts", "Band", "Line", "Window", "Ring", "_law_vat", "_law_sip", "_law_words", "_law_mark", "_law_made", "_law_agreeing", "_law_least", "_law_listed", "_law_right"]
def loose : List PySem.Str := lo0 ++ lo1
abbrev R : PySem.W.OpenRow := PySem.W.OpenLaw.row PySem.Challenge.rw_overstamps_k42_numbers_of_parts_shown
abbrev hk : PySem.W.Hook := hookO 5 fa fn ex
def ob (s : PySem.W.SharedT) : AlO := obsOG 5 fa fn ex (HandSHeadRun.getT s)
theorem ob_eq (s : PySem.W.SharedT) : ob s = hk.obs s.abs := obsOG_eq (HandSHeadRun.getT_eq s)
theorem run (w : World) : HandSHeadRun.RunEq R (PySem.W.view R.prog [61]) hk ob 8000 loose w := by
  intro os
  kernel_rfl
end K42

set_option Elab.async false
set_option linter.all false
set_option maxRecDepth 100000
set_option maxHeartbeats 0
open PySem PySem.W PySem.Calls PyProof.Rows
abbrev K42.lawAt (K : PySem.W.Frag) : PySem.Addr := He.ga K "law"
theorem K42.binds1 {K : PySem.W.Frag} {fd : PySem.FuncData} (F : L2.Fun K "law" "law" K42.s_law (He.ga K "law") fd) (s : PySem.Shared) (v : PySem.Value) : PySem.BindsTo s fd ⟨[v], []⟩ [("script", v)] := by
  obtain ⟨oc, od, kV, doc, pm, an, cdv, ct, osl, rfl, lk, hcd⟩ := F.ex
  exact .of_eq (K42.b_law kV doc pm an cdv ct [v] rfl)
theorem PySem.Challenge.cw_overstamps_k42_numbers_of_parts_shown_holds : PySem.Challenge.rw_overstamps_k42_numbers_of_parts_shown.Holds := by
  w_on; o_law
  refine HandSHeadRun.head_any (r := OpenLaw.row PySem.Challenge.rw_overstamps_k42_numbers_of_parts_shown) (q := view (OpenLaw.row PySem.Challenge.rw_overstamps_k42_numbers_of_parts_shown).prog [61]) (H := K42.hk) (ob := K42.ob) (M := 8000) (loose := K42.loose) (d := HandSHeadRun.topDef (OpenLaw.row PySem.Challenge.rw_overstamps_k42_numbers_of_parts_shown).prog 61) (kwd := []) K42.ob_eq
    (by kernel_rfl) (fun s => by kernel_rfl) K42.run (by kernel_rfl) (by kernel_rfl) (by kernel_rfl) (by rfl) (by first | assumption | decide +kernel) (by decide +kernel) ⟨rfl, rfl, rfl, rfl, rfl, by decide +kernel⟩ ?hw ?hc
  case hw => w_witness2
  case hc =>
    refine Ov.walk_ofEG (l := PySem.Challenge.rw_overstamps_k42_numbers_of_parts_shown) (n := 63) (k := 8) (x := "script") (CX := L2.CX0) rfl (by decide) (by kernel_rfl) ⟨rfl, by decide, by decide⟩ ?F (fun _ _ _ _ z => z)
    intro w mg fa h Y G hmg0
    obtain ⟨K, KX, c⟩ := Y
    have hmg : mg ("law" : PySem.Str) = some (.ref fa) := by
      have e : (HandSHeadRun.topDef (OpenLaw.row PySem.Challenge.rw_overstamps_k42_numbers_of_parts_shown).prog 61).name = ("law" : PySem.Str) := by kernel_rfl
      rw [← e]
      exact hmg0
    have T : K42.Txt K mg := K42.txt_of KX G c
    have efa : fa = K42.lawAt K := by
      have e := hmg.symm.trans T.g_law
      cases e
      rfl
    subst efa
    obtain ⟨fd, F⟩ := T.f_law
    refine ⟨K, fd, K42.spLaw K, KX, K42.binds1 F, fun H a ns hl _ hS => ⟨a, ns, rfl, hS, hl, fun _ => rfl⟩, fun base _ _ => K42.ok_law T F⟩
