import PyProof.Rows.All
import Wide.All
import OpenK.AllK
import Wide.FinOn
import HandS.ForMost
import HandS.ForExc
import HandS.DictTup
import HandS.IsInst
import HandS.ExcIs
import HandS.TupSets
import PySem.Challenge.RW_vatyard_k15_too_full
import HandS.Codes
set_option Elab.async false
set_option linter.all false
set_option maxRecDepth 100000
set_option maxHeartbeats 4400000
/-! VyRules: what the hand layer lacks for this law. -/
namespace Vy
open PyProof.Rows PySem PySem.Spec L2

/-! ### defs and methods with all that a call asks of them -/
/-- a def of the module: its promise, its place, how it binds -/
structure Df (P : Program) (w : World) (K : PySem.W.Frag) (mg : Str → Option Value) (base : Heap) (CX : CXT) (k : Nat) (x : Str) (ps : List Str) (sp : Sp) : Prop where
  ex : ∃ fa fd, FnOk P w K mg base CX k fa fd ps sp ∧ mg x = some (.ref fa) ∧ PySem.W.keepIn K (.ref fa) = true ∧ Binds K fd ps []
/-- what a call of a method of the class at C asks -/
structure Md (P : Program) (w : World) (K : PySem.W.Frag) (mg : Str → Option Value) (base : Heap) (CX : CXT) (k : Nat) (C : Addr) (m : Str) (ps : List Str) (sp : Sp) : Prop where
  ex : ∃ fa fd, FnOk P w K mg base CX k fa fd ps sp ∧ Meth K C m fa ∧ Binds K fd ps [] ∧ Cls K C
/-- a class of the module with its __init__ -/
structure Kl (P : Program) (w : World) (K : PySem.W.Frag) (mg : Str → Option Value) (base : Heap) (CX : CXT) (k : Nat) (x : Str) (C : Addr) (ps : List Str) (sp : Sp) : Prop where
  ex : ∃ fa fd, FnOk P w K mg base CX k fa fd ps sp ∧ Mk K C fa ∧ mg x = some (.ref C) ∧ Binds K fd ps []
section
variable {X : Cx} {CX : CXT} {k j : Nat} {x m : Str} {C : Addr} {ps : List Str} {sp : Sp} {E : XK} {p cp ap : Pos} {ea ob : Expr} {ar : List Expr} {t : TA} {ta : TE}
theorem pe_df (d : Df X.prog X.w X.K X.mg X.base CX k x ps sp) (hr : Room j X.A) (hj : k ≤ j) (hg : Gl X x) (hx : Passes CX X E) (ha : PA X (ea :: ar) t)
    (hdb : (x == ("__debug__" : Str)) = false := by decide) (he : starEach (ea :: ar) X.env = (false, eval ea X.env) :: starEach ar X.env := by rfl) (hpl : (backTo cp (starEach ar X.env)).any (·.1) = false := by rfl) :
    PE X (.Call (.Name x p) (ea :: ar) [] cp) (tCall sp [] E t) := by
  obtain ⟨fa, fd, F, hm, hk, hbb⟩ := d.ex
  exact pe_call F (hr.mono hj) hg hm hk hbb .nil hx ha hdb he hpl
theorem pe_md (d : Md X.prog X.w X.K X.mg X.base CX k C m ps sp) (hr : Room j X.A) (hj : k ≤ j) (hx : Passes CX X E) (ho : PE X ob ta) (ha : PA X (ea :: ar) t) {pl : Sem Bool}
    (hst : starEach (ea :: ar) X.env = (false, eval ea X.env) :: starEach ar X.env := by rfl) (hpl : (backTo cp (starEach ar X.env)).any (·.1) = false := by rfl)
    (ht : eval (.Call (.Attribute ob m ap) (ea :: ar) [] cp) X.env = (do
      let ov ← eval ob X.env
      standAt ap.atName
      let (fa, self0) ← holding [ov] (getMethod ov m pl)
      callWith cp fa self0 (backTo cp (starEach (ea :: ar) X.env)) (backToKw cp (keywordEach [] X.env))) := by rfl) :
    PE X (.Call (.Attribute ob m ap) (ea :: ar) [] cp) (tMeth C m sp [] E ta t) := by
  obtain ⟨fa, fd, F, hm, hbb, hc⟩ := d.ex
  exact pe_meth ho hc hm F (hr.mono hj) hbb .nil hx ha hst hpl ht
theorem pe_md0 (d : Md X.prog X.w X.K X.mg X.base CX k C m ps sp) (hr : Room j X.A) (hj : k ≤ j) (hx : Passes CX X E) (ho : PE X ob ta) {pl : Sem Bool}
    (ht : eval (.Call (.Attribute ob m ap) [] [] cp) X.env = (do
      let ov ← eval ob X.env
      standAt ap.atName
      let (fa, self0) ← holding [ov] (getMethod ov m pl)
      callWith cp fa self0 (backTo cp (starEach [] X.env)) (backToKw cp (keywordEach [] X.env))) := by rfl) :
    PE X (.Call (.Attribute ob m ap) [] [] cp) (tMeth C m sp [] E ta tNil) := by
  obtain ⟨fa, fd, F, hm, hbb, hc⟩ := d.ex
  exact pe_meth0 ho hc hm F (hr.mono hj) hbb .nil hx ht
theorem pe_kl (d : Kl X.prog X.w X.K X.mg X.base CX k x C ps sp) (hr : Room j X.A) (hj : k + 1 ≤ j) (hg : Gl X x) (hx : Passes CX X E) (ha : PA X (ea :: ar) t)
    (hdb : (x == ("__debug__" : Str)) = false := by decide) (he : starEach (ea :: ar) X.env = (false, eval ea X.env) :: starEach ar X.env := by rfl) (hpl : (backTo cp (starEach ar X.env)).any (·.1) = false := by rfl) :
    PE X (.Call (.Name x p) (ea :: ar) [] cp) (tMake C sp [] E t) := by
  obtain ⟨fa, fd, F, hM, hm, hbb⟩ := d.ex
  exact pe_make hM F (hr.mono hj) hg hm hbb .nil hx ha hdb he hpl

/-- ob.m(), where what is raised is wished for at the caller's slots (in a try) -/
def tMeth0S (C : Addr) (m : Str) (sp : Sp) (E : L2.St → XK) (ta : TE) : TE := fun σ G Q => ta σ G fun x H1 => ∃ a dx fs, x = .ref a ∧ H1 a = some (.ins C dx fs) ∧ fs.lookup m = none ∧ sp [x] H1 Q (E σ)
theorem pe_md0S {E : L2.St → XK} (d : Md X.prog X.w X.K X.mg X.base CX k C m ps sp) (hr : Room j X.A) (hj : k ≤ j) (hx : ∀ σ, PassesAt CX X σ (E σ)) (ho : PE X ob ta) {pl : Sem Bool}
    (ht : eval (.Call (.Attribute ob m ap) [] [] cp) X.env = (do
      let ov ← eval ob X.env
      standAt ap.atName
      let (fa, self0) ← holding [ov] (getMethod ov m pl)
      callWith cp fa self0 (backTo cp (starEach [] X.env)) (backToKw cp (keywordEach [] X.env))) := by rfl) :
    PE X (.Call (.Attribute ob m ap) [] [] cp) (tMeth0S C m sp E ta) := by
  obtain ⟨fa, fd, F, hm, hbb, hc⟩ := d.ex
  refine ⟨fun pn sh σ G Q J hx0 => ?_⟩
  refine PySem.W.methodCall_KW (pl := pl) (thn (ho.run pn sh σ G _ J hx0) fun uv s1 ⟨x, H1, I1, rx, a, dx, fs, ex, ea, l, q⟩ => ?_) ht
  subst ex
  obtain rfl : uv = Value.ref a := rx
  refine getmeth_ok I1 ea hc hm l ?_
  exact PySem.W.callWith_K0 (first := [.ref a]) I1.kIn hm.kp (run_fnS (us := [.ref a]) (vs := [.ref a]) F (hr.mono hj) hbb (hx σ) I1 (.cons rfl .nil) q)
end

/-! ### xs[lo::stp], xs a list of ints: some of its ints, in a new list -/
section
variable {X : Cx} {ea stp : Expr} {te : TE} {lo hi : Option Expr} {tl th ts : TO} {cp p2 : Pos}
def tSl3 (K : PySem.W.Frag) (te : TE) (tl th ts : TO) : TE := fun σ G Q => te σ G fun x H1 => tl σ H1 fun l H2 => th σ H2 fun uv H3 => ts σ H3 fun k H4 =>
  ∃ (a : Addr) (ns : List Int), x = .ref a ∧ SqL K H4 a (ns.map V.int) ∧ k ≠ some 0 ∧ ∀ (p : Addr) (ms : List Int), H4 p = none → ms.length ≤ ns.length → Q (.ref p) (upd H4 p (.lst (ms.map V.int)))
theorem pe_slice3 (he : PE X ea te) (hl : PO X lo tl) (hu : PO X hi th) (hne : PO X (some stp) ts) : PE X (.Subscript ea (.Slice lo hi (some stp) p2) cp) (tSl3 X.K te tl th ts) := by
  refine ⟨fun pn sh σ G Q J hx0 => ?_⟩
  refine Subscript_ (thn (he.run pn sh σ G _ J hx0) fun v s1 ⟨x, H1, I1, r1, q1⟩ => ?_)
  refine wpAny_Slice (thn (hl.run pn s1 σ H1 _ I1 q1) fun vl s2 ⟨l, H2, I2, pl, q2⟩ => thn (hu.run pn s2 σ H2 _ I2 q2) fun vu s3 ⟨uv, H3, I3, pu, q3⟩ => thn (hne.run pn s3 σ H3 _ I3 q3) fun vk s4 ⟨k, H4, I4, pk, a, ns, ex, hq, h0, q4⟩ => ?_)
  subst ex
  cases r1
  obtain ⟨its, rv, ht, hz⟩ := I4.list hq
  have hints := intsAre_of rv
  have hlen := rv.length
  rw [List.length_map] at hlen hz
  have I5 : Inv X pn σ H4 { s4 with heap := s4.heap.push { cls := .type "slice", data := .fields #[vl, vu, vk] } } := I4.kept (t' := s4.toks) fun b ob q => Heap.get?_push_of_some _ q
  have ht' := ht.isList.push { cls := .type "slice", data := .fields #[vl, vu, vk] }
  show wpAny (model X.prog X.w) X.A (subscriptTail ea (.Slice lo hi (some stp) p2) (.ref a) (.ref s4.heap.objs.size)) (EP X pn σ Q) X.xe { s4 with heap := s4.heap.push { cls := .type "slice", data := .fields #[vl, vu, vk] } }
  have hm := hints.pick l uv k
  have hml := length_pickNums_le hints l uv k
  refine tail_any (ops := [.ref a, .ref s4.heap.objs.size]) (Heap.IsList.typeIs (s := { s4 with heap := s4.heap.push { cls := .type "slice", data := .fields #[vl, vu, vk] } }) ht') slot_list_getitem.lookup
    (wpAny_getItem_list_slice (s := { s4 with heap := s4.heap.push { cls := .type "slice", data := .fields #[vl, vu, vk] } }) ht' (Heap.IsSliceOf.new ..) pl pu pk h0 ?_ (by rw [List.size_toArray]; omega)) (by with_unfolding_all rfl)
  generalize hh : s4.heap.push { cls := .type "slice", data := .fields #[vl, vu, vk] } = h5 at I5 ⊢
  have rvm := vals_ints hm
  refine ⟨.ref h5.objs.size, _, I5.laid (t' := s4.toks) (o := .lst ((pickNums ns l uv k).map V.int)) (fun b ob q => Heap.get?_push_of_some _ q) (Nat.le_refl _) ?_, rfl, q4 _ _ (I5.hok.fresh (Nat.le_refl _)) hml⟩
  refine ⟨by rw [List.length_map]; omega, (slicePick its.toArray l uv k).toList, 0, rvm, ?_⟩
  show (h5.push _).get? h5.objs.size = _
  rw [Heap.get?_push_size _ rfl]
end

/-! ### xs[i] op= ea -/
section
variable {X : Cx}
/-- the j-th item of a list -/
def rGetL (K : PySem.W.Frag) : V → V → Hp → VK → Prop := fun ob i G Q => ∃ (p : Addr) (xs : List V) (j : Nat) (v : V), ob = .ref p ∧ i = .int (j : Int) ∧ SqL K G p xs ∧ xs[j]? = some v ∧ Q v G
theorem get_list : PGet X (rGetL X.K) := by
  intro pn sh σ G ob i ov iv Q J ro ri hx0
  obtain ⟨p, xs, j, v, rfl, rfl, hq, hx, q⟩ := hx0
  cases ro
  obtain ⟨t, rfl⟩ := ri
  obtain ⟨its, r, pl, hz⟩ := J.list hq
  obtain ⟨w, ew, rw'⟩ := r.get hx
  have hlt : j < xs.length := (List.getElem?_eq_some_iff.mp hx).1
  have hn := line63
  exact wpAny_getItem_list pl.isList (Int.natCast_nonneg _) (by omega) (by simpa using ew) ⟨v, G, J, rw', q⟩
end

/-! ### for k, v in d.items(), the keys tuples -/
section
variable {X : Cx} {pn : List (Addr × Obj)} {σ : L2.St} {G : Hp} {sh : Shared} {d : Addr} {ob : Obj}
theorem frzTV {rws : List (List Key × V)} (J : Inv X pn σ G sh) (hx0 : G d = some (.frz ob (.dT rws))) :
    (d == sysModules) = false ∧ sh.heap.get? d = some ob ∧ ob.ExactDict ∧ ∃ (ar : Array DictEntry) (ep : Nat), ob.data = .dict ar ep ∧ ar.size = rws.length ∧
      ∀ (i : Nat) (k : List Key) (v : V), rws[i]? = some (k, v) → ∃ (en : DictEntry) (q : Addr), ar[i]? = some en ∧ en.key = .ref q ∧ G q = some (.tup (k.map kV)) ∧ RelV v en.val := by
  obtain ⟨hd, w0, hne, xs, pr, o', ar, ep, ho, hx, hdt, he, _⟩ := J.hok d _ hx0
  rw [hd] at ho
  cases ho
  refine ⟨hne, hd, hx, ar, ep, hdt, ?_, fun i k v ea => ?_⟩
  · have l1 : ar.size = xs.length := size_of_entries he
    have len2 : rws.length = xs.length := Paired.length pr
    omega
  · obtain ⟨b, hbb, e1, e2, e3⟩ := paired_get pr ea
    have q := entry_at he i
    rw [hbb] at q
    exact ⟨_, b.2.1, q, rfl, e2, e3⟩
end
/-- the pairs of the locked dict at d, each a new tuple of the key's own tuple and the value -/
def ItiT (d : Addr) (ob : Obj) (rws : List (List Key × V)) : It :=
  ⟨fun i G => G d = some (.frz ob (.dT rws)) ∧ i < rws.length, fun i G x H' => ∃ (T q : Addr) (k : List Key) (v : V), rws[i]? = some (k, v) ∧ x = .ref T ∧ G T = none ∧ G q = some (.tup (k.map kV)) ∧ H' = upd G T (.tup [.ref q, v]), fun i G => G d = some (.frz ob (.dT rws)) ∧ rws.length ≤ i⟩
theorem turn_itemsT {P : Program} {w : World} {K : PySem.W.Frag} {d : Addr} {ob : Obj} {ar : Array DictEntry} {ep : Nat} {rws : List (List Key × V)} {elts : List Expr} {kk : Nat} {tq : Pos} (it : Addr) (hdo : ob.data = .dict ar ep) :
    Turn P w K (.Tuple elts kk tq) (ItiT d ob rws) [it] it (fun i hx0 => ∃ ok ov, IsItemIter hx0 it d i rws.length ep ok ov) where
  mem := by simp
  obj := fun i hx0 stp b hbb => by
    have ea : b = it := by simpa using hbb
    subst ea
    obtain ⟨ok, ov, ea⟩ := stp
    exact ⟨_, ea, fun v w0 => nomatch w0⟩
  keep := fun i hx0 h' stp k => let ⟨ok, ov, ea⟩ := stp; ⟨ok, ov, k it (by simp) _ ea⟩
  item := by
    intro X hP hw hK hc i pn sh σ G E J hf stp hg
    subst hP hw hK
    obtain ⟨hd, hi⟩ := hg
    obtain ⟨hne, hgd, hx, es', ep', hdt, hsz, hent⟩ := frzTV J hd
    obtain ⟨rfl, rfl⟩ := dict_ep hdo hdt
    obtain ⟨⟨k, v⟩, hkv⟩ : ∃ p, rws[i]? = some p := ⟨rws[i], List.getElem?_eq_getElem hi⟩
    obtain ⟨en, q, hen, hkey, hq, ru⟩ := hent i k v hkv
    obtain ⟨ok, ov, he⟩ := stp
    rw [← hsz] at he hi
    have hlt : it < sh.heap.objs.size := Heap.lt_size he
    have een : es'[i] = en := by
      rw [Array.getElem?_eq_getElem hi] at hen
      exact Option.some.inj hen
    refine DT.nextI he ⟨ob, hgd, hx, hdt⟩ hi fun h' ho hT hz hk => ?_
    rw [een, hkey] at ho hT
    refine ⟨_, rfl, wpAny_letOwnedTupleGo_items (s := { sh with heap := h' }) ho fun h'' he' sb => ?_⟩
    have hT2 : h''.get? sh.heap.objs.size = some { cls := .type "tuple", data := .seq #[.ref q, en.val] } := (sb.2 _ (Nat.ne_of_gt hlt)).trans hT
    have new : ObjOk X.prog X.w (upd G sh.heap.objs.size (.tup [.ref q, v])) h'' sh.heap.objs.size (.tup [.ref q, v]) :=
      ⟨by show 2 ≤ sizeLine; decide, [.ref q, en.val], .cons rfl (.cons ru .nil), ⟨_, hT2, rfl, _, rfl⟩⟩
    have I1 : Inv X pn σ (upd G sh.heap.objs.size (.tup [.ref q, v])) { sh with heap := h'' } :=
      J.turnedNew (t' := sh.toks) (ch := [it]) (fun b ob hbb ea => (sb.2 b (by simpa using hbb)).trans (hk b ob (by simpa using hbb) ea)) hf (Nat.le_refl _) new
    refine ⟨.ref sh.heap.objs.size, _, I1, rfl, ⟨_, q, k, v, hkv, rfl, J.hok.fresh (Nat.le_refl _), hq, rfl⟩, ⟨.ref q, en.val, ?_⟩, fun b hbb => ?_⟩
    · rw [← hsz]; exact he'
    · have ea : b = it := by simpa using hbb
      rw [ea, upd_ne (Nat.ne_of_lt hlt)]
      exact (hf it (by simp)).1
  done := by
    intro X hP hw hK hc i pn sh σ G E J hf stp hg
    subst hP hw hK
    obtain ⟨hd, hi⟩ := hg
    obtain ⟨w0a, w1a, w2a, w3a, w4a, w5a⟩ := hf it (by simp)
    obtain ⟨hne, hgd, hx, es', ep', hdt, hsz, hent⟩ := frzTV J hd
    obtain ⟨rfl, rfl⟩ := dict_ep hdo hdt
    obtain ⟨ok, ov, he⟩ := stp
    rw [← hsz] at he
    exact DT.endI (J.ok.hd hc) he ⟨ob, hgd, hx, hdt⟩ (by omega) fun h' eb => ⟨rfl, J.turned (t' := sh.toks) (fun b ob hbb ea => eb b ob hbb ea) w0a w1a w3a w4a w5a⟩
  self := fun A i sh Q E stp hx0 => let ⟨_, _, ea⟩ := stp; PySem.W.kcp_self ea hx0
def iItemsT (td : TE) : TI := fun σ G R => td σ G fun x H1 => ∃ d ob rws, x = .ref d ∧ H1 d = some (.frz ob (.dT rws)) ∧ R (ItiT d ob rws) H1
section
variable {X : Cx} {tg ea : Expr} {td : TE} {ap cq : Pos}
theorem pi_itemsT {elts : List Expr} {kk : Nat} {tq : Pos} (he : PE X ea td) (hbase : attributeBase ea "items" X.env (eval ea X.env) = eval ea X.env := by rfl) (hline : (ap.endLine == cq.line) = true := by rfl) :
    PI X (.Tuple elts kk tq) (.Call (.Attribute ea "items" ap) [] [] cq) (iItemsT td) := by
  refine ⟨fun pn sh σ G R J hx0 => ?_⟩
  refine wpAny_Call_method (T := "dict") (id := "dict.items") hbase rfl hline F.plainAttrs_dict F.slot_dict_items F.type_dict_items (thn (he.run pn sh σ G _ J hx0) fun uv s1 ⟨x, H1, I1, rx, d, ob, rws, ex, hd, q⟩ => ?_)
  subst ex
  obtain rfl : uv = Value.ref d := rx
  obtain ⟨hne, hgd, hx, ar, ep, hdt, hsz, hent⟩ := frzTV I1 hd
  have hR : DT.Raw s1.heap d ar ep := ⟨ob, hgd, hx, hdt⟩
  refine ⟨hR.typeIs, ?_, ?_⟩
  · intro b q
    cases q
    exact ⟨ob, hgd, hx.2.1⟩
  have I2 : Inv X pn σ H1 { s1 with heap := s1.heap.push { cls := .type "dict_items", data := .fields #[.ref d] } } := I1.kept (t' := s1.toks) fun b ob q => Heap.get?_push_of_some _ q
  have fin : wpAny (model X.prog X.w) X.A (pyIter (.ref s1.heap.objs.size)) (PIE X pn σ (.Tuple elts kk tq) R) X.xe { s1 with heap := s1.heap.push { cls := .type "dict_items", data := .fields #[.ref d] } } := by
    refine DT.iterI (d := d) (es := ar) (ep := ep) ⟨_, Heap.get?_push_size _ rfl, rfl, rfl⟩ (hR.push _) (pi_one (tk := s1.toks) I2 _ (turn_itemsT _ hdt) ⟨.none, .none, ?_⟩ q)
    rw [← hsz]
    exact (Heap.get?_push_size _ rfl)
  show wpAny _ _ (callWith cq (.builtin "dict.items") [.ref d] [] []) _ X.xe s1
  exact method_meetsIn F.slot_dict_items F.entry_dict_items rfl (PySem.evalArgs_none ⟨rfl, hR.typeIs, F.args_dict_items_1 _, _, DT.meetsItems (es := ar) (ep := ep) hne, ⟨hR, fin⟩⟩)
end
end Vy

/-! VyState: the data of a Play in plain words, where it stands in the heap. -/
namespace Vy
open PyProof.Rows PySem PySem.Spec L2

/-! ### lists of ints by a function of the place -/
def lsI (n : Nat) (f : Nat → Int) : List V := (List.range n).map fun i => V.int (f i)
theorem lsI_len (n : Nat) (f : Nat → Int) : (lsI n f).length = n := by simp [lsI]
theorem lsI_get {n i : Nat} (f : Nat → Int) (h : i < n) : (lsI n f)[i]? = some (V.int (f i)) := by
  unfold lsI
  rw [List.getElem?_map, List.getElem?_range h]
  rfl
theorem lsI_congr {n : Nat} {f g : Nat → Int} (h : ∀ i, i < n → f i = g i) : lsI n f = lsI n g := by
  unfold lsI
  refine List.map_congr_left fun i hi => ?_
  rw [h i (List.mem_range.mp hi)]
theorem lsI_set (n i : Nat) (f : Nat → Int) (x : Int) : (lsI n f).set i (V.int x) = lsI n (fun k => if k = i then x else f k) := by
  apply List.ext_getElem?
  intro j
  by_cases hj : j < n
  · rw [lsI_get _ hj]
    by_cases e : i = j
    · subst e
      rw [List.getElem?_set_self (by rw [lsI_len]; exact hj), if_pos rfl]
    · rw [List.getElem?_set_ne e, lsI_get _ hj, if_neg (fun q => e q.symm)]
  · rw [List.getElem?_eq_none (by rw [List.length_set, lsI_len]; omega), List.getElem?_eq_none (by rw [lsI_len]; omega)]
theorem lsI_ints (n : Nat) (f : Nat → Int) : lsI n f = ((List.range n).map f).map V.int := by
  unfold lsI
  rw [List.map_map]
  rfl
theorem lsI_rep (n : Nat) : (List.replicate n [V.int 0]).flatten = lsI n (fun _ => 0) := by
  induction n with
  | zero => rfl
  | succ n ih =>
    rw [List.replicate_succ, List.flatten_cons, ih]
    apply List.ext_getElem?
    intro j
    cases j with
    | zero => rw [lsI_get _ (Nat.succ_pos n)]; rfl
    | succ j =>
      show (lsI n fun _ => 0)[j]? = _
      by_cases hj : j < n
      · rw [lsI_get _ hj, lsI_get _ (Nat.succ_lt_succ hj)]
      · rw [List.getElem?_eq_none (by rw [lsI_len]; omega), List.getElem?_eq_none (by rw [lsI_len]; omega)]

/-! ### attributes by place -/
section
theorem lk_of {fs : List (Str × V)} : ∀ {i : Nat} {k : Str} {v : V}, (fs.map (·.1)).Nodup → fs[i]? = some (k, v) → fs.lookup k = some v := by
  induction fs with
  | nil => intro i k v _ h; simp at h
  | cons x r ih =>
    intro i k v hn h
    obtain ⟨k0, v0⟩ := x
    rw [List.map_cons] at hn
    rw [List.nodup_cons] at hn
    cases i with
    | zero =>
      have e : (k0, v0) = (k, v) := Option.some.inj h
      cases e
      simp [List.lookup]
    | succ i =>
      have h' : r[i]? = some (k, v) := h
      have ne : ¬ k = k0 := fun e => hn.1 (by rw [← e]; exact List.mem_map.mpr ⟨(k, v), List.mem_of_getElem? h', rfl⟩)
      have qf : (k == k0) = false := by simpa using ne
      rw [List.lookup_cons, qf]
      exact ih hn.2 h'
theorem lk_no {fs : List (Str × V)} {m : Str} (h : ¬ m ∈ fs.map (·.1)) : fs.lookup m = none := by
  induction fs with
  | nil => rfl
  | cons x r ih =>
    obtain ⟨k0, v0⟩ := x
    rw [List.map_cons, List.mem_cons] at h
    have ne : ¬ m = k0 := fun e => h (.inl e)
    have qf : (m == k0) = false := by simpa using ne
    rw [List.lookup_cons, qf]
    exact ih fun z => h (.inr z)
theorem put_at {k : Str} {y : V} : ∀ {fs : List (Str × V)} {i : Nat} {v : V}, (fs.map (·.1)).Nodup → fs[i]? = some (k, v) → putF k y fs = fs.set i (k, y)
  | [], i, v, _, h => by simp at h
  | (k0, v0) :: r, 0, v, hn, h => by
    have e : (k0, v0) = (k, v) := Option.some.inj h
    cases e
    show (if k = k then (k, y) :: r else _) = (k, y) :: r
    rw [if_pos rfl]
  | (k0, v0) :: r, i + 1, v, hn, h => by
    rw [List.map_cons] at hn
    rw [List.nodup_cons] at hn
    have h' : r[i]? = some (k, v) := h
    have ne : ¬ k0 = k := fun e => hn.1 (by rw [e]; exact List.mem_map.mpr ⟨(k, v), List.mem_of_getElem? h', rfl⟩)
    show (if k0 = k then (k0, y) :: r else (k0, v0) :: putF k y r) = (k0, v0) :: r.set i (k, y)
    rw [if_neg ne, put_at hn.2 h']
theorem put_new {k : Str} {y : V} : ∀ {fs : List (Str × V)}, ¬ k ∈ fs.map (·.1) → putF k y fs = fs ++ [(k, y)]
  | [], _ => rfl
  | (k0, v0) :: r, h => by
    rw [List.map_cons, List.mem_cons] at h
    have ne : ¬ k0 = k := fun e => h (.inl e.symm)
    show (if k0 = k then (k0, y) :: r else (k0, v0) :: putF k y r) = (k0, v0) :: (r ++ [(k, y)])
    rw [if_neg ne, put_new fun z => h (.inr z)]
end

/-! ### what the frame of a call keeps -/
theorem same_upd {H : Hp} {q : Addr} {o : HO} (h : H q = none) : Same H (upd H q o) := fun b u e => by
  rw [upd_ne (ne_of_none e h)]
  exact e

/-! ### loops and comprehensions over enumerate, over the items of a dict with tuple keys -/
theorem lc_enum {K : PySem.W.Frag} {a : Addr} {ls : List V} {g : TG} {tt : TT} {te : TE} {vs : List Nat} {σ : L2.St} {H1 : Hp} {L0 : Addr} {Fin : Hp → Prop} (Iv : Nat → Hp → Prop) (h0 : Iv 0 (upd H1 L0 (.lst []))) (hl : ∀ i H, i ≤ ls.length → Iv i H → SqL K H a ls)
    (hs : ∀ i x H T, ls[i]? = some x → Iv i H → H T = none → g (.ref T) (wipe σ vs) (upd H T (.tup [.int (i : Nat), x])) fun σ2 H2 => wipe σ2 vs = wipe σ vs ∧ tt σ2 H2 fun b H3 =>
      if b = true then te σ2 H3 fun y H4 => ∃ got0, H4 L0 = some (.lst got0) ∧ got0.length < sizeLine ∧ Iv (i + 1) (upd H4 L0 (.lst (got0 ++ [y]))) else Iv (i + 1) H3) (hd : ∀ H, Iv ls.length H → Fin H) :
    ∃ W : Nat → Nat → Hp → Prop, (∃ m, W 0 m (upd H1 L0 (.lst []))) ∧ ∀ i m H, W i m H →
      ((Ite K a).stop i H ∧ Fin H) ∨ ((Ite K a).go i H ∧ ∃ Go : Hp → Prop, (∀ H', Go H' → ∃ m', m' < m ∧ W (i + 1) m' H') ∧ ∀ x H', (Ite K a).yld i H x H' → g x (wipe σ vs) H' fun σ2 H2 => wipe σ2 vs = wipe σ vs ∧ tt σ2 H2 fun b H3 =>
        if b = true then te σ2 H3 fun y H4 => ∃ got0, H4 L0 = some (.lst got0) ∧ got0.length < sizeLine ∧ Go (upd H4 L0 (.lst (got0 ++ [y]))) else Go H3) := by
  refine ⟨fun i m H => m = ls.length - i ∧ i ≤ ls.length ∧ Iv i H, ⟨ls.length, by simp, Nat.zero_le _, h0⟩, ?_⟩
  rintro i m H ⟨rfl, hi, p⟩
  have q := hl i H hi p
  by_cases hlt : i < ls.length
  · refine .inr ⟨⟨ls, ls[i], q, by simp [hlt]⟩, Iv (i + 1), fun H' p' => ⟨ls.length - (i + 1), by omega, rfl, hlt, p'⟩, fun x H' y => ?_⟩
    obtain ⟨T, z, e1, hT, e2, y⟩ := y
    subst e1 e2
    exact hs i z _ T (y ls q) p hT
  · have e : i = ls.length := by omega
    subst e
    exact .inl ⟨⟨ls, q, Nat.le_refl _⟩, hd H p⟩
theorem for_itemsT {d : Addr} {o : Obj} {rws : List (List Key × V)} {g : TG} {tb : TS} {L0 : Ends} {σ : L2.St} {H : Hp} (Iv : Nat → L2.St → Hp → Prop) (h0 : Iv 0 σ H) (hl : ∀ i σ H, Iv i σ H → H d = some (.frz o (.dT rws)))
    (hs : ∀ i k v T q σ H, rws[i]? = some (k, v) → Iv i σ H → H T = none → H q = some (.tup (k.map kV)) → g (.ref T) σ (upd H T (.tup [.ref q, v])) fun σ2 H2 => tb { L0 with nx := Iv (i + 1), ct := Iv (i + 1), bk := L0.nx } σ2 H2) (hd : ∀ σ H, Iv rws.length σ H → L0.nx σ H) :
    ∃ Wk : Nat → Nat → L2.St → Hp → Prop, (∃ m, Wk 0 m σ H) ∧ ∀ i m σ H, Wk i m σ H →
      ((ItiT d o rws).stop i H ∧ L0.nx σ H) ∨ ((ItiT d o rws).go i H ∧ ∃ N : L2.St → Hp → Prop, (∀ σ' H', N σ' H' → ∃ m', m' < m ∧ Wk (i + 1) m' σ' H') ∧ ∀ x H', (ItiT d o rws).yld i H x H' → g x σ H' fun σ2 H2 => tb { L0 with nx := N, ct := N, bk := L0.nx } σ2 H2) := by
  refine ⟨fun i m σ H => m = rws.length - i ∧ i ≤ rws.length ∧ Iv i σ H, ⟨rws.length, by simp, Nat.zero_le _, h0⟩, ?_⟩
  rintro i m σ H ⟨rfl, hi, p⟩
  have q := hl i σ H p
  by_cases hlt : i < rws.length
  · refine .inr ⟨⟨q, hlt⟩, Iv (i + 1), fun σ' H' p' => ⟨rws.length - (i + 1), by omega, rfl, hlt, p'⟩, fun x H' y => ?_⟩
    obtain ⟨T, r, k, v, e0, e1, hT, hr, e2⟩ := y
    subst e1 e2
    exact hs i k v T r σ _ e0 p hT hr
  · have e : i = rws.length := by omega
    subst e
    exact .inl ⟨⟨q, Nat.le_refl _⟩, hd σ H p⟩

/-! ### a yard, a play -/
/-- a pipe: start, goal, length, price; its gate is steady, WID wide -/
structure Pp where
  s : Nat
  g : Nat
  len : Nat
  price : Int
def WID : Int := 1000000000000
structure Yd where
  n : Nat
  room : Nat → Int
  fill : Nat → Int
  m : Nat
  pipe : Nat → Pp
structure PS where
  t : Nat
  held : Nat → Int
  used : Nat → Int
  com : List (Nat × Nat × Int)
structure YOk (Y : Yd) : Prop where
  n : Y.n ≤ 100
  m : Y.m ≤ 100
  ends : ∀ i, i < Y.m → (Y.pipe i).s < Y.n ∧ (Y.pipe i).g < Y.n
abbrev ky (e : Nat × Nat × Int) : Nat × Nat := (e.1, e.2.1)
structure CmOk (Y : Yd) (c : List (Nat × Nat × Int)) : Prop where
  pipe : ∀ e, e ∈ c → e.2.1 < Y.m
  nd : (c.map ky).Nodup
  len : c.length ≤ 100
def kyK (k : Nat × Nat) : List Key := [Sum.inl (k.1 : Int), Sum.inl (k.2 : Int)]
def ent (e : Nat × Nat × Int) : List Key × V := (kyK (ky e), V.int e.2.2)
theorem kyK_inj {a b : Nat × Nat} (h : kyK a = kyK b) : a = b := by
  unfold kyK at h
  injection h with h1 h2
  injection h2 with h2 _
  have e1 := Sum.inl.inj h1
  have e2 := Sum.inl.inj h2
  obtain ⟨a1, a2⟩ := a
  obtain ⟨b1, b2⟩ := b
  simp only [Prod.mk.injEq]
  constructor <;> omega

def VatsAt (H : Hp) (l : Addr) (n : Nat) (room fill : Nat → Int) : Prop :=
  ∃ xs : List V, H l = some (.lst xs) ∧ xs.length = n ∧ ∀ i, i < n → ∃ (a : Addr) (nm : Str), xs[i]? = some (.ref a) ∧ H a = some (.tup [.str nm, .int (room i), .int (fill i)])
def PipesAt (H : Hp) (l : Addr) (m : Nat) (pipe : Nat → Pp) : Prop :=
  ∃ xs : List V, H l = some (.lst xs) ∧ xs.length = m ∧ ∀ i, i < m → ∃ (a g : Addr), xs[i]? = some (.ref a) ∧ H a = some (.tup [.int (pipe i).s, .int (pipe i).g, .int (pipe i).len, .int (pipe i).price, .ref g]) ∧ H g = some (.tup [.str "steady", .int WID])
def pf (lv lp : Addr) (t : Int) (lh lu dc : Addr) : List (Str × V) := [("vats", .ref lv), ("pipes", .ref lp), ("moment", .int t), ("held", .ref lh), ("used", .ref lu), ("coming", .ref dc)]
theorem pf_nd : (["vats", "pipes", "moment", "held", "used", "coming"] : List Str).Nodup := by decide +kernel
structure Core (C : Addr) (Y : Yd) (H : Hp) (p lv lp lh lu dc : Addr) (S : PS) : Prop where
  ob : ∃ dx, H p = some (.ins C dx (pf lv lp S.t lh lu dc))
  vats : VatsAt H lv Y.n Y.room Y.fill
  pipes : PipesAt H lp Y.m Y.pipe
  held : H lh = some (.lst (lsI Y.n S.held))
  used : H lu = some (.lst (lsI Y.m S.used))
  com : H dc = some (.dT (S.com.map ent))
  n1 : lv ≠ lh
  n2 : lv ≠ lu
  n3 : lp ≠ lh
  n4 : lp ≠ lu
  n5 : lh ≠ lu
  cm : CmOk Y S.com
/-- a Play stands at p; what it may change stands where O is -/
structure PlayAt (C : Addr) (Y : Yd) (H : Hp) (O : Addr → Prop) (p : Addr) (S : PS) : Prop where
  core : ∃ lv lp lh lu dc, Core C Y H p lv lp lh lu dc S ∧ O p ∧ O lh ∧ O lu ∧ O dc ∧ O lv ∧ O lp
theorem VatsAt.same {H H' : Hp} {l : Addr} {n : Nat} {r f : Nat → Int} (h : VatsAt H l n r f) (s : Same H H') : VatsAt H' l n r f := by
  obtain ⟨xs, h1, h2, h3⟩ := h
  refine ⟨xs, s _ _ h1, h2, fun i hi => ?_⟩
  obtain ⟨a, nm, e1, e2⟩ := h3 i hi
  exact ⟨a, nm, e1, s _ _ e2⟩
theorem PipesAt.same {H H' : Hp} {l : Addr} {m : Nat} {p : Nat → Pp} (h : PipesAt H l m p) (s : Same H H') : PipesAt H' l m p := by
  obtain ⟨xs, h1, h2, h3⟩ := h
  refine ⟨xs, s _ _ h1, h2, fun i hi => ?_⟩
  obtain ⟨a, g, e1, e2, e3⟩ := h3 i hi
  exact ⟨a, g, e1, s _ _ e2, s _ _ e3⟩
/-- .. where the list itself and all tuples stand -/
theorem VatsAt.keep {H H' : Hp} {l : Addr} {n : Nat} {r f : Nat → Int} (h : VatsAt H l n r f) (hl : ∀ o, H l = some o → H' l = some o) (ht : ∀ b ys, H b = some (.tup ys) → H' b = some (.tup ys)) : VatsAt H' l n r f := by
  obtain ⟨xs, h1, h2, h3⟩ := h
  refine ⟨xs, hl _ h1, h2, fun i hi => ?_⟩
  obtain ⟨a, nm, e1, e2⟩ := h3 i hi
  exact ⟨a, nm, e1, ht _ _ e2⟩
theorem PipesAt.keep {H H' : Hp} {l : Addr} {m : Nat} {p : Nat → Pp} (h : PipesAt H l m p) (hl : ∀ o, H l = some o → H' l = some o) (ht : ∀ b ys, H b = some (.tup ys) → H' b = some (.tup ys)) : PipesAt H' l m p := by
  obtain ⟨xs, h1, h2, h3⟩ := h
  refine ⟨xs, hl _ h1, h2, fun i hi => ?_⟩
  obtain ⟨a, g, e1, e2, e3⟩ := h3 i hi
  exact ⟨a, g, e1, ht _ _ e2, ht _ _ e3⟩
theorem Core.same {C : Addr} {Y : Yd} {H H' : Hp} {p lv lp lh lu dc : Addr} {S : PS} (c : Core C Y H p lv lp lh lu dc S) (s : Same H H') : Core C Y H' p lv lp lh lu dc S :=
  ⟨let ⟨dx, e⟩ := c.ob; ⟨dx, s _ _ e⟩, c.vats.same s, c.pipes.same s, s _ _ c.held, s _ _ c.used, s _ _ c.com, c.n1, c.n2, c.n3, c.n4, c.n5, c.cm⟩
theorem PlayAt.same {C : Addr} {Y : Yd} {H H' : Hp} {O : Addr → Prop} {p : Addr} {S : PS} (h : PlayAt C Y H O p S) (s : Same H H') : PlayAt C Y H' O p S := by
  obtain ⟨lv, lp, lh, lu, dc, c, o⟩ := h.core
  exact ⟨lv, lp, lh, lu, dc, c.same s, o⟩
/-- what stands outside O stands still, and so do the tuples -/
def Kp (O : Addr → Prop) (H H' : Hp) : Prop := ∀ b o, H b = some o → (O b → ∃ ys, o = .tup ys) → H' b = some o
theorem Kp.tup {O : Addr → Prop} {H H' : Hp} (k : Kp O H H') : ∀ b ys, H b = some (.tup ys) → H' b = some (.tup ys) := fun b ys e => k b _ e fun _ => ⟨ys, rfl⟩
theorem Kp.out {O : Addr → Prop} {H H' : Hp} (k : Kp O H H') {b : Addr} {o : HO} (e : H b = some o) (n : ¬ O b) : H' b = some o := k b o e fun z => absurd z n
theorem kp_ne {O : Addr → Prop} {H : Hp} {b c : Addr} {o u : HO} (e : H b = some o) (n : O b → ∃ ys, o = .tup ys) (hc : H c = some u) (oc : O c) (hu : ∀ ys, u ≠ .tup ys) : b ≠ c := fun z => by
  obtain ⟨ys, e1⟩ := n (by rw [z]; exact oc)
  rw [z, hc] at e
  exact hu ys ((Option.some.inj e).trans e1)
/-- a write outside O leaves the Play -/
theorem PlayAt.keep {C : Addr} {Y : Yd} {H H' : Hp} {O : Addr → Prop} {p : Addr} {S : PS} (h : PlayAt C Y H O p S) (k : ∀ b o, H b = some o → (O b ∨ ∃ ys, o = .tup ys) → H' b = some o) : PlayAt C Y H' O p S := by
  obtain ⟨lv, lp, lh, lu, dc, c, op, oh, ou, oc, ov, opp⟩ := h.core
  obtain ⟨dx, ob⟩ := c.ob
  exact ⟨lv, lp, lh, lu, dc, ⟨⟨dx, k _ _ ob (.inl op)⟩, c.vats.keep (fun o e => k _ _ e (.inl ov)) (fun b ys e => k _ _ e (.inr ⟨ys, rfl⟩)), c.pipes.keep (fun o e => k _ _ e (.inl opp)) (fun b ys e => k _ _ e (.inr ⟨ys, rfl⟩)),
    k _ _ c.held (.inl oh), k _ _ c.used (.inl ou), k _ _ c.com (.inl oc), c.n1, c.n2, c.n3, c.n4, c.n5, c.cm⟩, op, oh, ou, oc, ov, opp⟩
/-- the vats that hold more than their room -/
def fullL (Y : Yd) (h : Nat → Int) : List Nat := (List.range Y.n).filter fun i => decide (Y.room i < h i)
def natsV (l : List Nat) : List V := l.map fun (i : Nat) => V.int (i : Int)
/-- some buckets let into the pipe i -/
def tail (k : Nat × Nat) (x : Int) : List (Nat × Nat × Int) := if 0 < x then [(k.1, k.2, x)] else []
def letS (Y : Yd) (S : PS) (i : Nat) (a : Int) (base : List (Nat × Nat × Int)) (x : Int) : PS where
  t := S.t
  held := fun k => if k = (Y.pipe i).s then S.held (Y.pipe i).s - a else S.held k
  used := fun k => if k = i then S.used i + a else S.used k
  com := base ++ tail (S.t + (Y.pipe i).len, i) (x + a)
/-- the next moment -/
def gain (Y : Yd) (t k : Nat) (l : List (Nat × Nat × Int)) : Int := (l.map fun e => if e.1 = t ∧ (Y.pipe e.2.1).g = k then e.2.2 else 0).sum
def goOn (Y : Yd) (S : PS) : PS where
  t := S.t + 1
  held := fun k => S.held k + gain Y (S.t + 1) k S.com
  used := fun _ => 0
  com := S.com.filter fun e => decide (e.1 ≠ S.t + 1)
end Vy

/-! VyPlay: the gate that is met, the Play but its going on. -/
namespace Vy
open PyProof.Rows PySem PySem.Spec L2

def top (i : Nat) : Stmt := PySem.Challenge.pw_vatyard_k15_too_full.main.body.getD i (.Pass ⟨0, 0, 0, 0⟩)
abbrev sSI : Stmt := inClass (top 13) 0
abbrev sWA : Stmt := inClass (top 13) 1
abbrev sGO : Stmt := top 16
abbrev sWI : Stmt := top 17
abbrev sPI : Stmt := inClass (top 19) 0
abbrev sNow : Stmt := inClass (top 19) 1
abbrev sHolds : Stmt := inClass (top 19) 2
abbrev sUnder : Stmt := inClass (top 19) 3
abbrev sRoom : Stmt := inClass (top 19) 4
abbrev sFull : Stmt := inClass (top 19) 5
abbrev sLet : Stmt := inClass (top 19) 6
abbrev sGoOn : Stmt := inClass (top 19) 7

theorem iteY {c A B : Prop} [Decidable c] (h : c) (a : A) : if decide c = true then A else B := by
  rw [if_pos (decide_eq_true h)]
  exact a
theorem iteN {c A B : Prop} [Decidable c] (h : ¬ c) (b : B) : if decide c = true then A else B := by
  rw [if_neg (by rw [decide_eq_false h]; exact Bool.false_ne_true)]
  exact b
theorem ite2D {c A B : Prop} [Decidable c] (h1 : c → A) (h2 : ¬ c → B) : if decide c = true then A else B := by
  by_cases h : c
  · exact iteY h (h1 h)
  · exact iteN h (h2 h)

/-! ### the attributes of a Play -/
section
variable (lv lp : Addr) (t : Int) (lh lu dc : Addr)
theorem pfV : (pf lv lp t lh lu dc).lookup ("vats" : Str) = some (.ref lv) := lk_of (i := 0) pf_nd rfl
theorem pfP : (pf lv lp t lh lu dc).lookup ("pipes" : Str) = some (.ref lp) := lk_of (i := 1) pf_nd rfl
theorem pfM : (pf lv lp t lh lu dc).lookup ("moment" : Str) = some (.int t) := lk_of (i := 2) pf_nd rfl
theorem pfH : (pf lv lp t lh lu dc).lookup ("held" : Str) = some (.ref lh) := lk_of (i := 3) pf_nd rfl
theorem pfU : (pf lv lp t lh lu dc).lookup ("used" : Str) = some (.ref lu) := lk_of (i := 4) pf_nd rfl
theorem pfC : (pf lv lp t lh lu dc).lookup ("coming" : Str) = some (.ref dc) := lk_of (i := 5) pf_nd rfl
theorem puM (t' : Int) : putF "moment" (.int t') (pf lv lp t lh lu dc) = pf lv lp t' lh lu dc := (put_at (fs := pf lv lp t lh lu dc) (i := 2) pf_nd rfl).trans rfl
theorem puU (lu' : Addr) : putF "used" (.ref lu') (pf lv lp t lh lu dc) = pf lv lp t lh lu' dc := (put_at (fs := pf lv lp t lh lu dc) (i := 4) pf_nd rfl).trans rfl
theorem puC (dc' : Addr) : putF "coming" (.ref dc') (pf lv lp t lh lu dc) = pf lv lp t lh lu dc' := (put_at (fs := pf lv lp t lh lu dc) (i := 5) pf_nd rfl).trans rfl
theorem pf_no {m : Str} (h : ¬ m ∈ (["vats", "pipes", "moment", "held", "used", "coming"] : List Str)) : (pf lv lp t lh lu dc).lookup m = none := lk_no h
end
/-- what the walk asks of Play's class -/
structure PTxt (K : PySem.W.Frag) (C : Addr) : Prop where
  cl : Cls K C
  nV : NoAttr K C "vats"
  nP : NoAttr K C "pipes"
  nM : NoAttr K C "moment"
  nH : NoAttr K C "held"
  nU : NoAttr K C "used"
  nC : NoAttr K C "coming"
/-- the built-ins that the text names are the built-ins -/
structure BTxt (mg : Str → Option Value) : Prop where
  len : mg "len" = none
  list : mg "list" = none
  enum : mg "enumerate" = none
  sorted : mg "sorted" = none
  range : mg "range" = none
  min : mg "min" = none
  isi : mg "isinstance" = none
  int : mg "int" = none
  bool : mg "bool" = none

/-! ### the gate -/
def spSI (C : Addr) : Sp := fun vs H Q _ => ∃ (p dx : Addr) (x : Int), vs = [.ref p, .int x] ∧ H p = some (.ins C dx []) ∧ Q .non (upd H p (.ins C dx [("most", .int x)]))
def spWA (C : Addr) : Sp := fun vs H Q _ => ∃ (p dx : Addr) (x t : Int), vs = [.ref p, .int t] ∧ H p = some (.ins C dx [("most", .int x)]) ∧ Q (.int x) H
def spGO (C : Addr) : Sp := fun vs H Q _ => ∃ (g : Addr) (x : Int), vs = [.ref g] ∧ H g = some (.tup [.str "steady", .int x]) ∧ ∀ (p dx : Addr) (H' : Hp), Same H H' → H' p = some (.ins C dx [("most", .int x)]) → Q (.ref p) H'
def spWI : Sp := fun vs H Q _ => ∃ (g : Addr) (x t : Int), vs = [.ref g, .int t] ∧ H g = some (.tup [.str "steady", .int x]) ∧ ∀ H' : Hp, Same H H' → Q (.int x) H'
section
variable {K : PySem.W.Frag} {P : Program} {w : World} {mg : Str → Option Value} {base : Heap}
theorem scSI : FnScope ["self", "most"] ["self", "most"] (defScope sSI) := ⟨rfl, rfl, rfl, by decide +kernel, rfl, by decide +kernel, by decide +kernel⟩
theorem ok_SI {f C : Addr} {fd : FuncData} (F : Fun K "__init__" "Steady.__init__" sSI f fd) (cl : Cls K C) (na : NoAttr K C "most") : FnOk P w K mg base CX0 1 f fd ["self", "most"] (spSI C) := by
  refine F.ok scSI (fun vs H Q E h => ?_) (fun cdv A outer s H vs Q E hr h => ?_)
  · obtain ⟨p, dx, x, rfl, _⟩ := h
    rfl
  · obtain ⟨p, dx, x, rfl, hp, k⟩ := h
    refine ⟨_, pss_one (ps_fld (pv 0) (pv 1) rfl), ?_⟩
    exact ⟨_, rfl, _, rfl, p, C, dx, [], rfl, hp, cl, na, (by show 0 < 1000; decide), k⟩
theorem scWA : FnScope ["self", "moment"] ["self", "moment"] (defScope sWA) := ⟨rfl, rfl, rfl, by decide +kernel, rfl, by decide +kernel, by decide +kernel⟩
theorem ok_WA {f C : Addr} {fd : FuncData} (F : Fun K "width_at" "Steady.width_at" sWA f fd) (cl : Cls K C) (na : NoAttr K C "most") : FnOk P w K mg base CX0 1 f fd ["self", "moment"] (spWA C) := by
  refine F.ok scWA (fun vs H Q E h => ?_) (fun cdv A outer s H vs Q E hr h => ?_)
  · obtain ⟨p, dx, x, t, rfl, _⟩ := h
    rfl
  · obtain ⟨p, dx, x, t, rfl, hp, k⟩ := h
    refine ⟨_, pss_one (ps_ret (pe_fld (pv 0) rfl)), ?_⟩
    exact ⟨_, rfl, p, C, dx, _, _, rfl, hp, cl, na, lk_of (i := 0) (List.nodup_cons.mpr ⟨List.not_mem_nil, List.nodup_nil⟩) rfl, k⟩
theorem scGO : FnScope ["gate"] ["gate"] (defScope sGO) := ⟨rfl, rfl, rfl, by decide +kernel, rfl, by decide +kernel, by decide +kernel⟩
theorem ok_GO {f C : Addr} {fd : FuncData} (F : Fun K "gate_of" "gate_of" sGO f fd) (dS : Kl P w K mg base CX0 1 "Steady" C ["self", "most"] (spSI C)) : FnOk P w K mg base CX0 3 f fd ["gate"] (spGO C) := by
  refine F.ok scGO (fun vs H Q E h => ?_) (fun cdv A outer s H vs Q E hr h => ?_)
  · obtain ⟨g, x, rfl, _⟩ := h
    rfl
  · obtain ⟨g, x, rfl, hg, k⟩ := h
    refine ⟨_, pss_cons (ps_if (pt_cmpR op_eq (pe_ix ix_tup (pv 0) pe_int (fun _ _ => rfl)) pe_str (nomark _)) (pss_one (ps_ret (pe_kl dS hr (by decide) rfl pass0 (pa_cons (pe_ix ix_tup (pv 0) pe_int (fun _ _ => rfl)) pa_nil)))) pss_nil) pss_never, ?_⟩
    refine ⟨_, rfl, g, _, _, _, rfl, rfl, SqT.of hg, at_of (j := 0) rfl rfl, rfl, _, rfl, iteY rfl ?_⟩
    refine ⟨_, rfl, g, _, _, _, rfl, rfl, SqT.of hg, at_of (j := 1) rfl rfl, ?_⟩
    intro p dx np ndx ne
    refine ⟨p, dx, x, rfl, upd_same, rfl, k p dx _ (fun b o e => ?_) upd_same⟩
    rw [upd_ne (ne_of_none e np), upd_ne (ne_of_none e np), upd_ne (ne_of_none e ndx)]
    exact e
theorem scWI : FnScope ["gate", "moment"] ["gate", "moment"] (defScope sWI) := ⟨rfl, rfl, rfl, by decide +kernel, rfl, by decide +kernel, by decide +kernel⟩
theorem ok_WI {f C : Addr} {fd : FuncData} (F : Fun K "width" "width" sWI f fd) (dG : Df P w K mg base CX0 3 "gate_of" ["gate"] (spGO C)) (dW : Md P w K mg base CX0 1 C "width_at" ["self", "moment"] (spWA C)) : FnOk P w K mg base CX0 4 f fd ["gate", "moment"] spWI := by
  refine F.ok scWI (fun vs H Q E h => ?_) (fun cdv A outer s H vs Q E hr h => ?_)
  · obtain ⟨g, x, t, rfl, _⟩ := h
    rfl
  · obtain ⟨g, x, t, rfl, hg, k⟩ := h
    refine ⟨_, pss_one (ps_ret (pe_md dW hr (by decide) pass0 (pe_df dG hr (by decide) rfl pass0 (pa_cons (pv 0) pa_nil)) (pa_cons (pv 1) pa_nil))), ?_⟩
    refine ⟨_, rfl, g, x, rfl, hg, fun p dx H' s' hp => ⟨p, dx, _, rfl, hp, lk_no (show ¬ ("width_at" : Str) ∈ (["most"] : List Str) by decide +kernel), _, rfl, p, dx, x, t, rfl, hp, k H' s'⟩⟩
end
end Vy

/-! VyPlayB: a Play is made; now, holds, full, room_in. -/
namespace Vy
open PyProof.Rows PySem PySem.Spec L2

def spNow (C : Addr) (Y : Yd) : Sp := fun vs H Q _ => ∃ (O : Addr → Prop) (p : Addr) (S : PS), vs = [.ref p] ∧ PlayAt C Y H O p S ∧ Q (.int S.t) H
def spHolds (C : Addr) (Y : Yd) : Sp := fun vs H Q _ => ∃ (O : Addr → Prop) (p : Addr) (S : PS), vs = [.ref p] ∧ PlayAt C Y H O p S ∧ ∀ q, H q = none → Q (.ref q) (upd H q (.lst (lsI Y.n S.held)))
def spFull (C : Addr) (Y : Yd) : Sp := fun vs H Q _ => ∃ (O : Addr → Prop) (p : Addr) (S : PS), vs = [.ref p] ∧ PlayAt C Y H O p S ∧ YOk Y ∧ ∀ q H', Same H H' → H q = none → H' q = some (.lst (natsV (fullL Y S.held))) → Q (.ref q) H'
def spRoom (C : Addr) (Y : Yd) : Sp := fun vs H Q _ => ∃ (O : Addr → Prop) (p : Addr) (S : PS) (i : Nat), vs = [.ref p, .int i] ∧ PlayAt C Y H O p S ∧ i < Y.m ∧ ∀ H', Same H H' → Q (.int (WID - S.used i)) H'
def spPI (C : Addr) (Y : Yd) : Sp := fun vs H Q _ => ∃ (p dx y lv lp : Addr), vs = [.ref p, .ref y] ∧ H p = some (.ins C dx []) ∧ H y = some (.tup [.ref lv, .ref lp]) ∧ VatsAt H lv Y.n Y.room Y.fill ∧ PipesAt H lp Y.m Y.pipe ∧ YOk Y ∧
  ∀ H', PlayAt C Y H' (fun b => b = p ∨ H b = none) p ⟨0, Y.fill, fun _ => 0, []⟩ → (∀ b o, H b = some o → b ≠ p → H' b = some o) → Q .non H'
abbrev rGt : R2 := rI0 fun i j => .bl (decide (j < i))
/-- while an instance at p is filled: all else stands, its attributes are fs -/
structure Stg (H G : Hp) (p C dx : Addr) (fs : List (Str × V)) : Prop where
  old : ∀ b o, H b = some o → b ≠ p → G b = some o
  at_ : G p = some (.ins C dx fs)
theorem Stg.new {H G : Hp} {p C dx l : Addr} {fs : List (Str × V)} {o : HO} (h : Stg H G p C dx fs) (hl : G l = none) : Stg H (upd G l o) p C dx fs :=
  ⟨fun b u e n => same_upd hl b u (h.old b u e n), same_upd hl _ _ h.at_⟩
theorem Stg.put {H G : Hp} {p C dx : Addr} {fs fs' : List (Str × V)} (h : Stg H G p C dx fs) : Stg H (upd G p (.ins C dx fs')) p C dx fs' :=
  ⟨fun b u e n => by rw [upd_ne n]; exact h.old b u e n, upd_same⟩
theorem Stg.same {H G G' : Hp} {p C dx : Addr} {fs : List (Str × V)} (h : Stg H G p C dx fs) (s : Same G G') : Stg H G' p C dx fs := ⟨fun b u e n => s _ _ (h.old b u e n), s _ _ h.at_⟩
theorem Stg.free {H G : Hp} {p C dx l : Addr} {fs fs0 : List (Str × V)} (h : Stg H G p C dx fs) (hp : H p = some (.ins C dx fs0)) (hl : G l = none) : H l = none := by
  cases e : H l with
  | none => rfl
  | some o =>
    by_cases n : l = p
    · rw [n, h.at_] at hl
      cases hl
    · rw [h.old l o e n] at hl
      cases hl
abbrev fA1 (l1 : Addr) : List (Str × V) := [("vats", V.ref l1)]
abbrev fA2 (l1 l2 : Addr) : List (Str × V) := [("vats", V.ref l1), ("pipes", V.ref l2)]
abbrev fA3 (l1 l2 : Addr) : List (Str × V) := [("vats", V.ref l1), ("pipes", V.ref l2), ("moment", V.int 0)]
abbrev fA4 (l1 l2 D : Addr) : List (Str × V) := [("vats", V.ref l1), ("pipes", V.ref l2), ("moment", V.int 0), ("held", V.ref D)]
abbrev fA5 (l1 l2 D lu : Addr) : List (Str × V) := [("vats", V.ref l1), ("pipes", V.ref l2), ("moment", V.int 0), ("held", V.ref D), ("used", V.ref lu)]
section
variable {K : PySem.W.Frag} {P : Program} {w : World} {mg : Str → Option Value} {base : Heap}
theorem scNow : FnScope ["self"] ["self"] (defScope sNow) := ⟨rfl, rfl, rfl, by decide +kernel, rfl, by decide +kernel, by decide +kernel⟩
theorem ok_now {f C : Addr} {fd : FuncData} {Y : Yd} (F : Fun K "now" "Play.now" sNow f fd) (T : PTxt K C) : FnOk P w K mg base CX0 1 f fd ["self"] (spNow C Y) := by
  refine F.ok scNow (fun vs H Q E h => ?_) (fun cdv A outer s H vs Q E hr h => ?_)
  · obtain ⟨O, p, S, rfl, _⟩ := h
    rfl
  · obtain ⟨O, p, S, rfl, hp, k⟩ := h
    obtain ⟨lv, lp, lh, lu, dc, c, _⟩ := hp.core
    obtain ⟨dx, ob⟩ := c.ob
    refine ⟨_, pss_one (ps_ret (pe_fld (pv 0) rfl)), ?_⟩
    exact ⟨_, rfl, p, C, dx, _, _, rfl, ob, T.cl, T.nM, pfM _ _ _ _ _ _, k⟩
theorem scHolds : FnScope ["self"] ["self"] (defScope sHolds) := ⟨rfl, rfl, rfl, by decide +kernel, rfl, by decide +kernel, by decide +kernel⟩
theorem ok_holds {f C : Addr} {fd : FuncData} {Y : Yd} (F : Fun K "holds" "Play.holds" sHolds f fd) (T : PTxt K C) (B : BTxt mg) : FnOk P w K mg base CX0 1 f fd ["self"] (spHolds C Y) := by
  refine F.ok scHolds (fun vs H Q E h => ?_) (fun cdv A outer s H vs Q E hr h => ?_)
  · obtain ⟨O, p, S, rfl, _⟩ := h
    rfl
  · obtain ⟨O, p, S, rfl, hp, k⟩ := h
    obtain ⟨lv, lp, lh, lu, dc, c, _⟩ := hp.core
    obtain ⟨dx, ob⟩ := c.ob
    refine ⟨_, pss_one (ps_ret (pe_callTy call_list_of (by rfl) B.list (by decide +kernel) (pa_cons (pe_fld (pv 0) rfl) pa_nil))), ?_⟩
    exact ⟨_, rfl, p, C, dx, _, _, rfl, ob, T.cl, T.nH, pfH _ _ _ _ _ _, lh, _, rfl, .inl (SqL.of c.held), k⟩
theorem scFull : FnScope ["self", "number", "vat"] ["self"] (defScope sFull) := ⟨rfl, rfl, rfl, by decide +kernel, rfl, by decide +kernel, by decide +kernel⟩
theorem natsV_snoc (l : List Nat) (i : Nat) : natsV (l ++ [i]) = natsV l ++ [V.int (i : Int)] := by
  unfold natsV
  rw [List.map_append]
  rfl
theorem full_snoc (q : Nat → Bool) (i : Nat) : (List.range (i + 1)).filter q = if q i = true then (List.range i).filter q ++ [i] else (List.range i).filter q := by
  rw [List.range_succ, List.filter_append]
  by_cases h : q i = true
  · rw [if_pos h, List.filter_cons_of_pos h]
    rfl
  · rw [if_neg h, List.filter_cons_of_neg h, List.filter_nil, List.append_nil]
theorem filter_le (q : Nat → Bool) (i : Nat) : ((List.range i).filter q).length ≤ i := by
  have h := List.length_filter_le q (List.range i)
  rw [List.length_range] at h
  exact h
theorem natsV_len (l : List Nat) : (natsV l).length = l.length := by simp [natsV]
theorem ok_full {f C : Addr} {fd : FuncData} {Y : Yd} (F : Fun K "full" "Play.full" sFull f fd) (T : PTxt K C) (B : BTxt mg) : FnOk P w K mg base CX0 1 f fd ["self"] (spFull C Y) := by
  refine F.ok scFull (fun vs H Q E h => ?_) (fun cdv A outer s H vs Q E hr h => ?_)
  · obtain ⟨O, p, S, rfl, _⟩ := h
    rfl
  · obtain ⟨O, p, S, rfl, hp, yo, k⟩ := h
    obtain ⟨lv, lp, lh, lu, dc, c, _⟩ := hp.core
    obtain ⟨dx, ob⟩ := c.ob
    obtain ⟨xs, hv, hl, hx⟩ := c.vats
    refine ⟨_, pss_one (ps_ret (pe_lc (own := [("number", 1), ("vat", 2)]) (g := gTup K 2 (gCons (gName 1) (gCons (gName 2) gNil))) (tt := tTest (tOp rGt (tOp (rIxL K) (tFld K (tVar 0) "held") (tVar 1)) (tOp (rIxT K) (tVar 2) (tC (.int 1))))) rfl scFull.nd (pi_enum (by rfl) B.enum (pa_cons (pe_fld (pv 0) rfl) pa_nil))
      (blkOk_by (N := ["self", "number", "vat"]) (sc := defScope sFull) (by decide +kernel))
      (fun _ _ _ _ _ => pg_tup rfl (pgs_cons (pg_name (i := 1) scFull.nd rfl (Or.inl rfl)) (pgs_cons (pg_name (i := 2) scFull.nd rfl (Or.inl rfl)) pgs_nil)))
      (fun _ _ _ _ _ => pts_one (pt_cmpR op_gt (pe_ix ix_list (pe_fld (pv 0) rfl) (pv 1) (fun _ _ => rfl)) (pe_ix ix_tup (pv 2) pe_int (fun _ _ => rfl)) (nomark _)))
      (fun _ _ _ _ _ => pv 1))), ?_⟩
    refine ⟨_, rfl, p, C, dx, _, _, rfl, ob, T.cl, T.nV, pfV _ _ _ _ _ _, lv, xs, rfl, SqL.of hv, fun D hD => lc_enum (K := K) (a := lv) (ls := xs)
      (fun i H' => Same H H' ∧ H' D = some (.lst (natsV ((List.range i).filter fun j => decide (Y.room j < S.held j))))) ⟨same_upd hD, upd_same⟩ (fun i H' _ q => SqL.of (q.1 _ _ hv)) ?_ ?_⟩
    · rintro i x H' U hi ⟨sm, hd⟩ hU
      have hin : i < Y.n := by
        have z := (List.getElem?_eq_some_iff.mp hi).1
        omega
      obtain ⟨a, nm, e1, e2⟩ := hx i hin
      rw [e1] at hi
      cases hi
      have nDU : D ≠ U := ne_of_none hd hU
      have sU : Same H' (upd H' U (.tup [.int (i : Nat), .ref a])) := same_upd hU
      refine ⟨U, _, rfl, SqT.of upd_same, rfl, _, _, rfl, _, _, rfl, rfl, rfl, ?_⟩
      refine ⟨_, rfl, p, C, dx, _, _, rfl, sU _ _ (sm _ _ ob), T.cl, T.nH, pfH _ _ _ _ _ _, _, rfl, lh, _, _, _, rfl, rfl, SqL.of (sU _ _ (sm _ _ c.held)), atI_nat (lsI_get _ hin),
        _, rfl, a, _, _, _, rfl, rfl, SqT.of (sU _ _ (sm _ _ e2)), at_of (j := 1) rfl rfl, _, _, rfl, rfl, _, rfl, ?_⟩
      have es := full_snoc (fun j => decide (Y.room j < S.held j)) i
      refine ite2D (fun hc => ?_) (fun hc => ?_)
      · rw [if_pos (decide_eq_true hc)] at es
        refine ⟨_, rfl, _, sU _ _ hd, ?_, ?_, ?_⟩
        · rw [natsV_len]
          have z := filter_le (fun j => decide (Y.room j < S.held j)) i
          have z2 := yo.n
          exact Nat.lt_of_le_of_lt z (small1000 (by omega))
        · intro b o e
          rw [upd_ne (ne_of_none e hD)]
          exact sU _ _ (sm _ _ e)
        · rw [upd_same, es, natsV_snoc]
      · rw [if_neg (by rw [decide_eq_false hc]; exact Bool.false_ne_true)] at es
        refine ⟨sm.trans sU, ?_⟩
        rw [es]
        exact sU _ _ hd
    · rintro H' ⟨sm, hd⟩
      rw [hl] at hd
      exact k D H' sm hD hd
theorem scRoom : FnScope ["self", "pipe"] ["self", "pipe"] (defScope sRoom) := ⟨rfl, rfl, rfl, by decide +kernel, rfl, by decide +kernel, by decide +kernel⟩
theorem ok_room {f C : Addr} {fd : FuncData} {Y : Yd} (F : Fun K "room_in" "Play.room_in" sRoom f fd) (T : PTxt K C) (B : BTxt mg) (dW : Df P w K mg base CX0 4 "width" ["gate", "moment"] spWI) : FnOk P w K mg base CX0 5 f fd ["self", "pipe"] (spRoom C Y) := by
  refine F.ok scRoom (fun vs H Q E h => ?_) (fun cdv A outer s H vs Q E hr h => ?_)
  · obtain ⟨O, p, S, i, rfl, _⟩ := h
    rfl
  · obtain ⟨O, p, S, i, rfl, hp, hi, k⟩ := h
    obtain ⟨lv, lp, lh, lu, dc, c, _⟩ := hp.core
    obtain ⟨dx, ob⟩ := c.ob
    obtain ⟨xs, hv, hl, hx⟩ := c.pipes
    obtain ⟨a, g, e1, e2, e3⟩ := hx i hi
    refine ⟨_, pss_cons (ps_if (PW.pt (pw_or (pt_cmpR op_lt (pv 1) pe_int (nomark _)) (pw_or1 (pt_cmpR op_ge (pv 1) (pe_callB call_len_seq (by rfl) B.len PySem.boot_len (pa_cons (pe_fld (pv 0) rfl) pa_nil)) (nomark _))))) (pss_one ps_never) pss_nil)
      (pss_one (ps_ret (pe_op op_sub (pe_df dW hr (by decide) rfl pass0 (pa_cons (pe_ix ix_tup (pe_ix ix_list (pe_fld (pv 0) rfl) (pv 1) (fun _ _ => rfl)) pe_int (fun _ _ => rfl)) (pa_cons (pe_fld (pv 0) rfl) pa_nil)))
        (pe_ix ix_list (pe_fld (pv 0) rfl) (pv 1) (fun _ _ => rfl))))), ?_⟩
    refine ⟨_, rfl, _, _, rfl, rfl, _, rfl, iteN (by omega) ?_⟩
    refine ⟨_, rfl, _, rfl, p, C, dx, _, _, rfl, ob, T.cl, T.nP, pfP _ _ _ _ _ _, lp, _, rfl, .inl (SqL.of hv), _, _, rfl, rfl, _, rfl, iteN (by omega) ?_⟩
    refine ⟨_, rfl, p, C, dx, _, _, rfl, ob, T.cl, T.nP, pfP _ _ _ _ _ _, _, rfl, lp, _, _, _, rfl, rfl, SqL.of hv, atI_nat e1, a, _, _, _, rfl, rfl, SqT.of e2, at_of (j := 4) rfl rfl,
      _, rfl, p, C, dx, _, _, rfl, ob, T.cl, T.nM, pfM _ _ _ _ _ _, g, _, _, rfl, e3, fun H' sm => ?_⟩
    exact ⟨_, rfl, p, C, dx, _, _, rfl, sm _ _ ob, T.cl, T.nU, pfU _ _ _ _ _ _, _, rfl, lu, _, _, _, rfl, rfl, SqL.of (sm _ _ c.used), atI_nat (lsI_get _ hi), _, _, rfl, rfl, k H' sm⟩
theorem scPI : FnScope ["self", "yard", "vat"] ["self", "yard"] (defScope sPI) := ⟨rfl, rfl, rfl, by decide +kernel, rfl, by decide +kernel, by decide +kernel⟩
theorem ok_PI {f C : Addr} {fd : FuncData} {Y : Yd} (F : Fun K "__init__" "Play.__init__" sPI f fd) (T : PTxt K C) (B : BTxt mg) : FnOk P w K mg base CX0 1 f fd ["self", "yard"] (spPI C Y) := by
  refine F.ok scPI (fun vs H Q E h => ?_) (fun cdv A outer s H vs Q E hr h => ?_)
  · obtain ⟨p, dx, y, lv, lp, rfl, _⟩ := h
    rfl
  · obtain ⟨p, dx, y, lv, lp, rfl, hp, hy, hV, hP, yo, k⟩ := h
    obtain ⟨xs, hv, hl, hx⟩ := id hV
    obtain ⟨ys, hq, hm, hz⟩ := id hP
    refine ⟨_, pss_cons (ps_fld (pv 0) (pe_callTy call_list_of (by rfl) B.list (by decide +kernel) (pa_cons (pe_ix ix_tup (pv 1) pe_int (fun _ _ => rfl)) pa_nil)) rfl)
      (pss_cons (ps_fld (pv 0) (pe_callTy call_list_of (by rfl) B.list (by decide +kernel) (pa_cons (pe_ix ix_tup (pv 1) pe_int (fun _ _ => rfl)) pa_nil)) rfl)
      (pss_cons (ps_fld (pv 0) pe_int rfl)
      (pss_cons (ps_fld (pv 0) (pe_lc (own := [("vat", 2)]) (g := gName 2) (te := tOp (rIxT K) (tVar 2) (tC (.int 2))) rfl scPI.nd (pi_list (pe_ix ix_tup (pv 1) pe_int (fun _ _ => rfl))) (blkOk_by (N := ["self", "yard", "vat"]) (sc := defScope sPI) (by decide +kernel))
        (fun _ _ _ _ _ => pg_name (i := 2) scPI.nd rfl (Or.inl rfl)) (fun _ _ _ _ _ => pts_nil) (fun _ _ _ _ _ => pe_ix ix_tup (pv 2) pe_int (fun _ _ => rfl))) rfl)
      (pss_cons (ps_fld (pv 0) (pe_op op_rep (pe_lst (pa_cons pe_int pa_nil)) (pe_callB call_len_seq (by rfl) B.len PySem.boot_len (pa_cons (pe_fld (pv 0) rfl) pa_nil))) rfl)
      (pss_one (ps_fld (pv 0) pe_dnewT rfl)))))), ?_⟩
    have npv : ∀ {l : Addr} {zs : List V}, H l = some (.lst zs) → l ≠ p := fun h => ne_of h hp (by intro z; cases z)
    have npt : ∀ {l : Addr} {zs : List V}, H l = some (.tup zs) → l ≠ p := fun h => ne_of h hp (by intro z; cases z)
    have g0 : Stg H H p C dx [] := ⟨fun _ _ e _ => e, hp⟩
    -- the vats, a copy
    refine ⟨_, rfl, y, _, _, _, rfl, rfl, SqT.of hy, at_of (j := 0) rfl rfl, lv, _, rfl, .inl (SqL.of hv), fun l1 f1 => ?_⟩
    have g1 := g0.new (o := .lst xs) f1
    have a1 : (upd H l1 (.lst xs)) l1 = some (.lst xs) := upd_same
    refine ⟨_, rfl, p, C, dx, [], rfl, g1.at_, T.cl, T.nV, (by show 0 < 1000; decide), ?_⟩
    have e1 : putF "vats" (V.ref l1) [] = (fA1 l1) := rfl
    rw [e1]
    have g1' := g1.put (fs' := (fA1 l1))
    have n1p : l1 ≠ p := fun z => by rw [z, hp] at f1; cases f1
    have a1' : (upd (upd H l1 (.lst xs)) p (.ins C dx (fA1 l1))) l1 = some (.lst xs) := by rw [upd_ne n1p]; exact a1
    generalize upd (upd H l1 (.lst xs)) p (.ins C dx (fA1 l1)) = G1 at g1' a1' ⊢
    -- the pipes, a copy
    refine ⟨_, rfl, y, _, _, _, rfl, rfl, SqT.of (g1'.old _ _ hy (npt hy)), at_of (j := 1) rfl rfl, lp, _, rfl, .inl (SqL.of (g1'.old _ _ hq (npv hq))), fun l2 f2 => ?_⟩
    have g2 := g1'.new (o := .lst ys) f2
    have a2 : (upd G1 l2 (.lst ys)) l2 = some (.lst ys) := upd_same
    have b2 := same_upd (o := .lst ys) f2 _ _ a1'
    refine ⟨_, rfl, p, C, dx, _, rfl, g2.at_, T.cl, T.nP, (by show 1 < 1000; decide), ?_⟩
    have e2 : putF "pipes" (V.ref l2) (fA1 l1) = (fA2 l1 l2) := (put_new (fs := (fA1 l1)) (show ¬ ("pipes" : Str) ∈ (["vats"] : List Str) by decide +kernel)).trans rfl
    rw [e2]
    have g2' := g2.put (fs' := (fA2 l1 l2))
    have n2p : l2 ≠ p := fun z => by rw [z, g1'.at_] at f2; cases f2
    have a2' : (upd (upd G1 l2 (.lst ys)) p (.ins C dx (fA2 l1 l2))) l2 = some (.lst ys) := by rw [upd_ne n2p]; exact a2
    have b2' : (upd (upd G1 l2 (.lst ys)) p (.ins C dx (fA2 l1 l2))) l1 = some (.lst xs) := by rw [upd_ne n1p]; exact b2
    have n12 : l1 ≠ l2 := ne_of_none a1' f2
    generalize upd (upd G1 l2 (.lst ys)) p (.ins C dx (fA2 l1 l2)) = G2 at g2' a2' b2' ⊢
    -- the moment
    refine ⟨_, rfl, p, C, dx, _, rfl, g2'.at_, T.cl, T.nM, (by show 2 < 1000; decide), ?_⟩
    have e3 : putF "moment" (V.int 0) (fA2 l1 l2) = (fA3 l1 l2) := (put_new (fs := (fA2 l1 l2)) (show ¬ ("moment" : Str) ∈ (["vats", "pipes"] : List Str) by decide +kernel)).trans rfl
    rw [e3]
    have g3 := g2'.put (fs' := (fA3 l1 l2))
    have a3 : (upd G2 p (.ins C dx (fA3 l1 l2))) l2 = some (.lst ys) := by rw [upd_ne n2p]; exact a2'
    have b3 : (upd G2 p (.ins C dx (fA3 l1 l2))) l1 = some (.lst xs) := by rw [upd_ne n1p]; exact b2'
    generalize upd G2 p (.ins C dx (fA3 l1 l2)) = G3 at g3 a3 b3 ⊢
    -- what is held
    refine ⟨_, rfl, y, _, _, _, rfl, rfl, SqT.of (g3.old _ _ hy (npt hy)), at_of (j := 0) rfl rfl, lv, rfl, ⟨_, SqL.of (g3.old _ _ hv (npv hv))⟩, fun D hD => lc_list (K := K) (a := lv) (xs := xs)
      (fun i H' => Same G3 H' ∧ H' D = some (.lst (lsI i Y.fill))) ⟨same_upd hD, upd_same⟩ (fun i H' _ q => SqL.of (q.1 _ _ (g3.old _ _ hv (npv hv)))) ?_ ?_⟩
    · rintro i x H' hi ⟨sm, hd⟩
      have hin : i < Y.n := by
        have z := (List.getElem?_eq_some_iff.mp hi).1
        omega
      obtain ⟨a, nm, q1, q2⟩ := hx i hin
      rw [q1] at hi
      cases hi
      refine ⟨rfl, ?_⟩
      refine iteT (B := True) ⟨_, rfl, a, _, _, _, rfl, rfl, SqT.of (sm _ _ (g3.old _ _ q2 (npt q2))), at_of (j := 2) rfl rfl, _, hd, ?_, ?_, ?_⟩
      · rw [lsI_len]
        have z2 := yo.n
        exact small1000 (by omega)
      · intro b o e
        rw [upd_ne (ne_of_none e hD)]
        exact sm _ _ e
      · rw [upd_same]
        unfold lsI
        rw [List.range_succ, List.map_append]
        rfl
    rintro G4 ⟨s4, h4⟩
    rw [hl] at h4
    have g4 := g3.same s4
    refine ⟨_, rfl, p, C, dx, _, rfl, g4.at_, T.cl, T.nH, (by show 3 < 1000; decide), ?_⟩
    have e4 : putF "held" (V.ref D) (fA3 l1 l2) = (fA4 l1 l2 D) :=
      (put_new (fs := (fA3 l1 l2)) (show ¬ ("held" : Str) ∈ (["vats", "pipes", "moment"] : List Str) by decide +kernel)).trans rfl
    rw [e4]
    have g4' := g4.put (fs' := (fA4 l1 l2 D))
    have nDp : D ≠ p := fun z => by rw [z, g3.at_] at hD; cases hD
    have a4 : (upd G4 p (.ins C dx (fA4 l1 l2 D))) l2 = some (.lst ys) := by rw [upd_ne n2p]; exact s4 _ _ a3
    have b4 : (upd G4 p (.ins C dx (fA4 l1 l2 D))) l1 = some (.lst xs) := by rw [upd_ne n1p]; exact s4 _ _ b3
    have c4 : (upd G4 p (.ins C dx (fA4 l1 l2 D))) D = some (.lst (lsI Y.n Y.fill)) := by rw [upd_ne nDp]; exact h4
    have n1D : l1 ≠ D := ne_of_none b3 hD
    have n2D : l2 ≠ D := ne_of_none a3 hD
    generalize upd G4 p (.ins C dx (fA4 l1 l2 D)) = G5 at g4' a4 b4 c4 ⊢
    -- what is used
    refine ⟨(by show 1 ≤ sizeLine; decide), fun z fz => ?_⟩
    have gz := g4'.new (o := .lst [V.int 0]) fz
    have sz := same_upd (o := .lst [V.int 0]) fz
    refine ⟨_, rfl, p, C, dx, _, _, rfl, gz.at_, T.cl, T.nP, lk_of (i := 1) (show (["vats", "pipes", "moment", "held"] : List Str).Nodup by decide +kernel) rfl, l2, _, rfl, .inl (SqL.of (sz _ _ a4)), z, _, _, rfl, rfl, upd_same, (by omega), ?_, ?_, fun lu fu => ?_⟩
    · have z2 := yo.m
      omega
    · have z2 := yo.m
      show 1 * ((ys.length : Nat) : Int).toNat ≤ sizeLine
      rw [sizeLine_eq]
      omega
    have eu : (List.replicate ((ys.length : Nat) : Int).toNat [V.int 0]).flatten = lsI Y.m (fun _ => 0) := by
      rw [Int.toNat_natCast, hm]
      exact lsI_rep _
    rw [eu]
    have gu := gz.new (o := .lst (lsI Y.m (fun _ => 0))) fu
    have su := same_upd (o := .lst (lsI Y.m (fun _ => 0))) fu
    refine ⟨_, rfl, p, C, dx, _, rfl, gu.at_, T.cl, T.nU, (by show 4 < 1000; decide), ?_⟩
    have e5 : putF "used" (V.ref lu) (fA4 l1 l2 D) = (fA5 l1 l2 D lu) :=
      (put_new (fs := (fA4 l1 l2 D)) (show ¬ ("used" : Str) ∈ (["vats", "pipes", "moment", "held"] : List Str) by decide +kernel)).trans rfl
    rw [e5]
    have g6 := gu.put (fs' := (fA5 l1 l2 D lu))
    have nup : lu ≠ p := fun z => by rw [z, gz.at_] at fu; cases fu
    have a6 := (upd_ne (H := upd (upd G5 z (.lst [V.int 0])) lu (.lst (lsI Y.m (fun _ => 0)))) (o := .ins C dx (fA5 l1 l2 D lu)) n2p).trans (su _ _ (sz _ _ a4))
    have b6 := (upd_ne (H := upd (upd G5 z (.lst [V.int 0])) lu (.lst (lsI Y.m (fun _ => 0)))) (o := .ins C dx (fA5 l1 l2 D lu)) n1p).trans (su _ _ (sz _ _ b4))
    have c6 := (upd_ne (H := upd (upd G5 z (.lst [V.int 0])) lu (.lst (lsI Y.m (fun _ => 0)))) (o := .ins C dx (fA5 l1 l2 D lu)) nDp).trans (su _ _ (sz _ _ c4))
    have d6 := (upd_ne (H := upd (upd G5 z (.lst [V.int 0])) lu (.lst (lsI Y.m (fun _ => 0)))) (o := .ins C dx (fA5 l1 l2 D lu)) nup).trans upd_same
    have n1u : l1 ≠ lu := ne_of_none (sz _ _ b4) fu
    have n2u : l2 ≠ lu := ne_of_none (sz _ _ a4) fu
    have nDu : D ≠ lu := ne_of_none (sz _ _ c4) fu
    have hu0 : H lu = none := gz.free hp fu
    generalize upd (upd (upd G5 z (.lst [V.int 0])) lu (.lst (lsI Y.m (fun _ => 0)))) p (.ins C dx (fA5 l1 l2 D lu)) = G6 at g6 a6 b6 c6 d6 ⊢
    -- what is coming
    intro dc fc
    have g7 := g6.new (o := .dT []) fc
    have s7 := same_upd (o := .dT []) fc
    refine ⟨_, rfl, p, C, dx, _, rfl, g7.at_, T.cl, T.nC, (by show 5 < 1000; decide), ?_⟩
    have e7 : putF "coming" (V.ref dc) (fA5 l1 l2 D lu) = pf l1 l2 0 D lu dc :=
      (put_new (fs := (fA5 l1 l2 D lu)) (show ¬ ("coming" : Str) ∈ (["vats", "pipes", "moment", "held", "used"] : List Str) by decide +kernel)).trans rfl
    rw [e7]
    have g8 := g7.put (fs' := pf l1 l2 0 D lu dc)
    have ncp : dc ≠ p := fun z => by rw [z, g6.at_] at fc; cases fc
    refine k _ ⟨l1, l2, D, lu, dc, ⟨⟨dx, g8.at_⟩, ⟨xs, ?_, hl, fun i hi => ?_⟩, ⟨ys, ?_, hm, fun i hi => ?_⟩, ?_, ?_, ?_, n1D, n1u, n2D, n2u, nDu, ⟨fun e he => absurd he (by simp), List.nodup_nil, Nat.zero_le _⟩⟩, .inl rfl, .inr (g3.free hp hD), .inr hu0, .inr (g6.free hp fc), .inr f1, .inr (g1'.free hp f2)⟩ g8.old
    · rw [upd_ne n1p]; exact s7 _ _ b6
    · obtain ⟨a, nm, q1, q2⟩ := hx i hi
      exact ⟨a, nm, q1, g8.old _ _ q2 (npt q2)⟩
    · rw [upd_ne n2p]; exact s7 _ _ a6
    · obtain ⟨a, g, q1, q2, q3⟩ := hz i hi
      exact ⟨a, g, q1, g8.old _ _ q2 (npt q2), g8.old _ _ q3 (npt q3)⟩
    · rw [upd_ne nDp]; exact s7 _ _ c6
    · rw [upd_ne nup]; exact s7 _ _ d6
    · rw [upd_ne ncp, upd_same]; rfl
end
end Vy

/-! VyPlayC: some buckets are let into a pipe. -/
namespace Vy
open PyProof.Rows PySem PySem.Spec L2

/-! ### what comes, as the dict holds it -/
theorem ky_ent {e : Nat × Nat × Int} {k : Nat × Nat} (h : (ent e).1 = kyK k) : ky e = k := kyK_inj h
theorem val_out {k : Nat × Nat} : ∀ {l : List (Nat × Nat × Int)}, ¬ k ∈ l.map ky → valV (l.map ent) (kyK k) = none
  | [], _ => rfl
  | e :: r, h => by
    rw [List.map_cons, List.mem_cons] at h
    show valV (ent e :: r.map ent) (kyK k) = none
    rw [valV_neg fun z => h (.inl (ky_ent z).symm)]
    exact val_out fun z => h (.inr z)
theorem val_app {k : Nat × Nat} : ∀ {l : List (Nat × Nat × Int)} (m : List (Nat × Nat × Int)), ¬ k ∈ l.map ky → valV ((l ++ m).map ent) (kyK k) = valV (m.map ent) (kyK k)
  | [], _, _ => rfl
  | e :: r, m, h => by
    rw [List.map_cons, List.mem_cons] at h
    show valV (ent e :: (r ++ m).map ent) (kyK k) = _
    rw [valV_neg fun z => h (.inl (ky_ent z).symm)]
    exact val_app m fun z => h (.inr z)
theorem tail_pos {k : Nat × Nat} {x : Int} (h : 0 < x) : tail k x = [(k.1, k.2, x)] := if_pos h
theorem tail_neg {k : Nat × Nat} {x : Int} (h : ¬ 0 < x) : tail k x = [] := if_neg h
theorem val_com {k : Nat × Nat} {base : List (Nat × Nat × Int)} {x : Int} (h : ¬ k ∈ base.map ky) (hx : 0 ≤ x) : (valV ((base ++ tail k x).map ent) (kyK k)).getD (V.int 0) = V.int x := by
  rw [val_app _ h]
  by_cases p : 0 < x
  · rw [tail_pos p]
    show (valV [ent (k.1, k.2, x)] (kyK k)).getD (V.int 0) = V.int x
    rw [valV_pos (p := ent (k.1, k.2, x)) (k := kyK k) rfl]
    rfl
  · rw [tail_neg p]
    have e : x = 0 := by omega
    subst e
    rfl
theorem put_out {k : Nat × Nat} {v : V} : ∀ {l : List (Nat × Nat × Int)}, ¬ k ∈ l.map ky → (l.map ent).map (fun kv => if kv.1 = kyK k then (kv.1, v) else kv) = l.map ent
  | [], _ => rfl
  | e :: r, h => by
    rw [List.map_cons, List.mem_cons] at h
    show (if (ent e).1 = kyK k then _ else ent e) :: (r.map ent).map _ = ent e :: r.map ent
    rw [if_neg fun z => h (.inl (ky_ent z).symm), put_out fun z => h (.inr z)]
theorem put_com {k : Nat × Nat} {base : List (Nat × Nat × Int)} {x y : Int} (h : ¬ k ∈ base.map ky) (hx : 0 ≤ x) (hy : 0 < y) : putK ((base ++ tail k x).map ent) (kyK k) (V.int y) = (base ++ tail k y).map ent := by
  by_cases p : 0 < x
  · rw [tail_pos p, tail_pos hy]
    have ha : (((base ++ [(k.1, k.2, x)]).map ent).any fun kv => decide (kv.1 = kyK k)) = true := by
      rw [List.any_eq_true]
      exact ⟨ent (k.1, k.2, x), List.mem_map.mpr ⟨_, List.mem_append_right _ (List.mem_singleton.mpr rfl), rfl⟩, decide_eq_true rfl⟩
    unfold putK
    rw [if_pos ha, List.map_append, List.map_append, put_out h, List.map_append]
    show base.map ent ++ [if (ent (k.1, k.2, x)).1 = kyK k then ((ent (k.1, k.2, x)).1, V.int y) else ent (k.1, k.2, x)] = base.map ent ++ [ent (k.1, k.2, y)]
    rw [if_pos (show (ent (k.1, k.2, x)).1 = kyK k from rfl)]
    rfl
  · rw [tail_neg p, tail_pos hy, List.append_nil, putK_new _ (val_out h), List.map_append]
    rfl
theorem cm_tail {Y : Yd} {k : Nat × Nat} {base : List (Nat × Nat × Int)} {x : Int} (y : Int) (c : CmOk Y (base ++ tail k x)) (h : ¬ k ∈ base.map ky) (hk : k.2 < Y.m) (hl : base.length < 100) : CmOk Y (base ++ tail k y) := by
  have cb : ∀ e, e ∈ base → e.2.1 < Y.m := fun e he => c.pipe e (List.mem_append_left _ he)
  have nb : (base.map ky).Nodup := by
    have z := c.nd
    rw [List.map_append] at z
    exact (List.nodup_append.mp z).1
  by_cases p : 0 < y
  · rw [tail_pos p]
    refine ⟨fun e he => ?_, ?_, ?_⟩
    · rcases List.mem_append.mp he with z | z
      · exact cb e z
      · rw [(List.mem_singleton).mp z]
        exact hk
    · rw [List.map_append]
      exact nd_snoc nb h
    · rw [List.length_append]
      show base.length + 1 ≤ 100
      omega
  · rw [tail_neg p, List.append_nil]
    exact ⟨cb, nb, by omega⟩

/-- a Play's objects, changed -/
theorem Core.to {C : Addr} {Y : Yd} {H H' : Hp} {p lv lp lh lu dc lu' dc' : Addr} {S S' : PS} (c : Core C Y H p lv lp lh lu dc S) (ob : ∃ dx, H' p = some (.ins C dx (pf lv lp S'.t lh lu' dc')))
    (hh : H' lh = some (.lst (lsI Y.n S'.held))) (hu : H' lu' = some (.lst (lsI Y.m S'.used))) (hc : H' dc' = some (.dT (S'.com.map ent))) (cm : CmOk Y S'.com) (nu : lu' = lu ∨ H lu' = none)
    (k : ∀ b o, H b = some o → b ≠ p → b ≠ lh → b ≠ lu → b ≠ dc → H' b = some o) : Core C Y H' p lv lp lh lu' dc' S' := by
  obtain ⟨dx, ob0⟩ := c.ob
  obtain ⟨xs, v1, v2, v3⟩ := c.vats
  obtain ⟨ys, p1, p2, p3⟩ := c.pipes
  have tup : ∀ b zs, H b = some (.tup zs) → H' b = some (.tup zs) := fun b zs e =>
    k b _ e (ne_of e ob0 (by intro z; cases z)) (ne_of e c.held (by intro z; cases z)) (ne_of e c.used (by intro z; cases z)) (ne_of e c.com (by intro z; cases z))
  refine ⟨ob, c.vats.keep (fun o e => k lv o e (ne_of v1 ob0 (by intro z; cases z)) c.n1 c.n2 (ne_of v1 c.com (by intro z; cases z))) tup,
    c.pipes.keep (fun o e => k lp o e (ne_of p1 ob0 (by intro z; cases z)) c.n3 c.n4 (ne_of p1 c.com (by intro z; cases z))) tup, hh, hu, hc, c.n1, ?_, c.n3, ?_, ?_, cm⟩
  · rcases nu with e | e
    · rw [e]; exact c.n2
    · exact ne_of_none v1 e
  · rcases nu with e | e
    · rw [e]; exact c.n4
    · exact ne_of_none p1 e
  · rcases nu with e | e
    · rw [e]; exact c.n5
    · exact ne_of_none c.held e

def spLet (C : Addr) (Y : Yd) : Sp := fun vs H Q _ => ∃ (O : Addr → Prop) (p : Addr) (S : PS) (i : Nat) (a : Int) (bs : List (Nat × Nat × Int)) (x : Int), vs = [.ref p, .int i, .int a] ∧ PlayAt C Y H O p S ∧ YOk Y ∧ i < Y.m ∧ 1 ≤ a ∧ a ≤ WID - S.used i ∧ a ≤ S.held (Y.pipe i).s ∧
  S.com = bs ++ tail (S.t + (Y.pipe i).len, i) x ∧ 0 ≤ x ∧ (¬ (S.t + (Y.pipe i).len, i) ∈ bs.map ky) ∧ bs.length < 100 ∧
  ∀ H', PlayAt C Y H' O p (letS Y S i a bs x) → Kp O H H' → Q (.int (S.held (Y.pipe i).s - a)) H'
section
variable {K : PySem.W.Frag} {P : Program} {w : World} {mg : Str → Option Value} {base : Heap}
theorem scLet : FnScope ["self", "pipe", "amount", "room", "start", "key"] ["self", "pipe", "amount"] (defScope sLet) := ⟨rfl, rfl, rfl, by decide +kernel, rfl, by decide +kernel, by decide +kernel⟩
theorem ixN_nat {n j : Nat} (h : j < n) : ixN n (j : Int) = some j := by
  unfold ixN
  rw [if_pos (Int.natCast_nonneg _), if_pos (by omega), Int.toNat_natCast]
theorem ok_let {f C : Addr} {fd : FuncData} {Y : Yd} (F : Fun K "let" "Play.let" sLet f fd) (T : PTxt K C) (dR : Md P w K mg base CX0 5 C "room_in" ["self", "pipe"] (spRoom C Y)) : FnOk P w K mg base CX0 6 f fd ["self", "pipe", "amount"] (spLet C Y) := by
  refine F.ok scLet (fun vs H Q E h => ?_) (fun cdv A outer s H vs Q E hr h => ?_)
  · obtain ⟨O, p, S, i, a, bs, x, rfl, _⟩ := h
    rfl
  · obtain ⟨O, p, S, i, a, bs, x, rfl, hp, yo, hi, ha1, ha2, ha3, hcm, hx0, hk, hbl, k⟩ := h
    have hu := hu_of hr
    obtain ⟨lv, lp, lh, lu, dc, c0, op, oh, ou, oc, ov, opp⟩ := id hp.core
    obtain ⟨dx, ob0⟩ := c0.ob
    refine ⟨_, pss_cons (ps_set (i := 3) scLet.nd rfl (Or.inl rfl) (pe_md dR hr (by decide) pass0 (pv 0) (pa_cons (pv 1) pa_nil)))
      (pss_cons (ps_if (pt_cmpR op_lt (pv 2) pe_int (nomark _)) (pss_one ps_never) pss_nil)
      (pss_cons (ps_if (pt_cmpR op_gt (pv 2) (pv 3) (nomark _)) (pss_one ps_never) pss_nil)
      (pss_cons (ps_set (i := 4) scLet.nd rfl (Or.inl rfl) (pe_ix ix_tup (pe_ix ix_list (pe_fld (pv 0) rfl) (pv 1) (fun _ _ => rfl)) pe_int (fun _ _ => rfl)))
      (pss_cons (ps_if (pt_cmpR op_gt (pv 2) (pe_ix ix_list (pe_fld (pv 0) rfl) (pv 4) (fun _ _ => rfl)) (nomark _)) (pss_one ps_never) pss_nil)
      (pss_cons (ps_augS (pe_fld (pv 0) rfl) (pv 4) get_list (pv 2) ip_sub set_list)
      (pss_cons (ps_augS (pe_fld (pv 0) rfl) (pv 1) get_list (pv 2) ip_add set_list)
      (pss_cons (ps_set (i := 5) scLet.nd rfl (Or.inl rfl) (pe_tup (pa_cons (pe_op op_add (pe_fld (pv 0) rfl) (pe_ix ix_tup (pe_ix ix_list (pe_fld (pv 0) rfl) (pv 1) (fun _ _ => rfl)) pe_int (fun _ _ => rfl))) (pa_cons (pv 1) pa_nil))))
      (pss_cons (ps_dput hu (pe_fld (pv 0) rfl) (pv 5) (pe_op op_add (pe_dget2 hu (pe_fld (pv 0) rfl) (pv 5) pe_int ⟨rfl, rfl, rfl, rfl⟩) (pv 2)) rfl)
      (pss_one (ps_ret (pe_ix ix_list (pe_fld (pv 0) rfl) (pv 4) (fun _ _ => rfl)))))))))))), ?_⟩
    -- the pipe's room
    refine ⟨_, rfl, p, dx, _, rfl, ob0, pf_no _ _ _ _ _ _ (by decide +kernel), _, rfl, O, p, S, i, rfl, hp, hi, fun H1 s1 => ?_⟩
    have c := c0.same s1
    have ob := s1 _ _ ob0
    obtain ⟨ys, q1, q2, q3⟩ := id c.pipes
    obtain ⟨t, g, q4, q5, q6⟩ := q3 i hi
    have hst := (yo.ends i hi).1
    have hV := c.vats
    -- the three tests
    refine ⟨_, rfl, _, _, rfl, rfl, _, rfl, iteN (by omega) ?_⟩
    refine ⟨_, rfl, _, rfl, _, _, rfl, rfl, _, rfl, iteN (by omega) ?_⟩
    refine ⟨_, rfl, p, C, dx, _, _, rfl, ob, T.cl, T.nP, pfP _ _ _ _ _ _, _, rfl, lp, _, _, _, rfl, rfl, SqL.of q1, atI_nat q4, t, _, _, _, rfl, rfl, SqT.of q5, at_of (j := 0) rfl rfl, ?_⟩
    refine ⟨_, rfl, _, rfl, p, C, dx, _, _, rfl, ob, T.cl, T.nH, pfH _ _ _ _ _ _, _, rfl, lh, _, _, _, rfl, rfl, SqL.of c.held, atI_nat (lsI_get _ hst), _, _, rfl, rfl, _, rfl, iteN (by omega) ?_⟩
    -- less in the vat
    have nph : p ≠ lh := ne_of ob c.held (by intro z; cases z)
    have npu : p ≠ lu := ne_of ob c.used (by intro z; cases z)
    have npc : p ≠ dc := ne_of ob c.com (by intro z; cases z)
    refine ⟨_, rfl, p, C, dx, _, _, rfl, ob, T.cl, T.nH, pfH _ _ _ _ _ _, _, rfl, lh, _, _, _, rfl, rfl, SqL.of c.held, lsI_get _ hst, _, rfl, _, _, rfl, rfl, lh, _, _, _, rfl, rfl, c.held, ixN_nat (by rw [lsI_len]; exact hst), ?_⟩
    rw [lsI_set]
    generalize e2 : upd H1 lh (.lst (lsI Y.n fun k => if k = (Y.pipe i).s then S.held (Y.pipe i).s - a else S.held k)) = H2
    have ob2 : H2 p = some (.ins C dx (pf lv lp S.t lh lu dc)) := by rw [← e2, upd_ne nph]; exact ob
    have u2 : H2 lu = some (.lst (lsI Y.m S.used)) := by rw [← e2, upd_ne (Ne.symm c.n5)]; exact c.used
    -- more in the pipe
    refine ⟨_, rfl, p, C, dx, _, _, rfl, ob2, T.cl, T.nU, pfU _ _ _ _ _ _, _, rfl, lu, _, _, _, rfl, rfl, SqL.of u2, lsI_get _ hi, _, rfl, _, _, rfl, rfl, lu, _, _, _, rfl, rfl, u2, ixN_nat (by rw [lsI_len]; exact hi), ?_⟩
    rw [lsI_set]
    generalize e3 : upd H2 lu (.lst (lsI Y.m fun k => if k = i then S.used i + a else S.used k)) = H3
    have k3 : ∀ b o, H1 b = some o → b ≠ lh → b ≠ lu → H3 b = some o := fun b o e n1 n2 => by rw [← e3, upd_ne n2, ← e2, upd_ne n1]; exact e
    have ob3 := k3 _ _ ob nph npu
    have q13 := k3 _ _ q1 c.n3 c.n4
    have q53 := k3 _ _ q5 (ne_of q5 c.held (by intro z; cases z)) (ne_of q5 c.used (by intro z; cases z))
    have c3 := k3 _ _ c.com (ne_of c.com c.held (by intro z; cases z)) (ne_of c.com c.used (by intro z; cases z))
    have h3 : H3 lh = some (.lst (lsI Y.n fun k => if k = (Y.pipe i).s then S.held (Y.pipe i).s - a else S.held k)) := by rw [← e3, upd_ne c.n5, ← e2, upd_same]
    have u3 : H3 lu = some (.lst (lsI Y.m fun k => if k = i then S.used i + a else S.used k)) := by rw [← e3, upd_same]
    -- the key, a new tuple
    refine ⟨_, rfl, p, C, dx, _, _, rfl, ob3, T.cl, T.nM, pfM _ _ _ _ _ _, _, rfl, p, C, dx, _, _, rfl, ob3, T.cl, T.nP, pfP _ _ _ _ _ _, _, rfl, lp, _, _, _, rfl, rfl, SqL.of q13, atI_nat q4, t, _, _, _, rfl, rfl, SqT.of q53, at_of (j := 2) rfl rfl, _, _, rfl, rfl, _, rfl,
      (by show 2 ≤ sizeLine; decide), fun ke fke => ?_⟩
    generalize e4 : upd H3 ke (.tup [.int ((S.t : Int) + ((Y.pipe i).len : Int)), .int (i : Int)]) = H4
    have s4 : Same H3 H4 := by rw [← e4]; exact same_upd fke
    have hke : H4 ke = some (.tup ((kyK (S.t + (Y.pipe i).len, i)).map kV)) := by
      rw [← e4, upd_same]
      show some (HO.tup [.int ((S.t : Int) + ((Y.pipe i).len : Int)), .int (i : Int)]) = some (HO.tup [.int ((S.t + (Y.pipe i).len : Nat) : Int), .int (i : Int)])
      rw [Int.natCast_add]
    -- more coming under the key
    have hl : (S.com.map ent).length < sizeLine := by
      rw [List.length_map]
      have z := c.cm.len
      exact small1000 (by omega)
    refine ⟨_, rfl, p, C, dx, _, _, rfl, s4 _ _ ob3, T.cl, T.nC, pfC _ _ _ _ _ _, dc, rfl, .inr ⟨_, .inl (s4 _ _ c3)⟩, _, rfl, _, DGet.t (s4 _ _ c3) hke, ?_⟩
    have ev : (valV (S.com.map ent) (kyK (S.t + (Y.pipe i).len, i))).getD (V.int 0) = V.int x := by rw [hcm]; exact val_com hk hx0
    rw [ev]
    refine ⟨_, rfl, _, _, rfl, rfl, _, rfl, p, C, dx, _, _, rfl, s4 _ _ ob3, T.cl, T.nC, pfC _ _ _ _ _ _, _, rfl, dc, _, rfl, DPut.t (s4 _ _ c3) hke hl, ?_⟩
    have ep : putK (S.com.map ent) (kyK (S.t + (Y.pipe i).len, i)) (V.int (x + a)) = (bs ++ tail (S.t + (Y.pipe i).len, i) (x + a)).map ent := by rw [hcm]; exact put_com hk hx0 (by omega)
    rw [ep]
    have nhc : lh ≠ dc := ne_of c.held c.com (by intro z; cases z)
    have nuc : lu ≠ dc := ne_of c.used c.com (by intro z; cases z)
    have ob5 : upd H4 dc (.dT ((bs ++ tail (S.t + (Y.pipe i).len, i) (x + a)).map ent)) p = some (.ins C dx (pf lv lp S.t lh lu dc)) := by rw [upd_ne npc]; exact s4 _ _ ob3
    have h5 : upd H4 dc (.dT ((bs ++ tail (S.t + (Y.pipe i).len, i) (x + a)).map ent)) lh = some (.lst (lsI Y.n (letS Y S i a bs x).held)) := by rw [upd_ne nhc]; exact s4 _ _ h3
    have u5 : upd H4 dc (.dT ((bs ++ tail (S.t + (Y.pipe i).len, i) (x + a)).map ent)) lu = some (.lst (lsI Y.m (letS Y S i a bs x).used)) := by rw [upd_ne nuc]; exact s4 _ _ u3
    have k5 : ∀ b o, H1 b = some o → b ≠ lh → b ≠ lu → b ≠ dc → upd H4 dc (.dT ((bs ++ tail (S.t + (Y.pipe i).len, i) (x + a)).map ent)) b = some o := fun b o e n1 n2 n3 => by rw [upd_ne n3]; exact s4 _ _ (k3 b o e n1 n2)
    -- the answer
    refine ⟨_, rfl, p, C, dx, _, _, rfl, ob5, T.cl, T.nH, pfH _ _ _ _ _ _, _, rfl, lh, _, _, _, rfl, rfl, SqL.of h5, atI_nat (lsI_get _ hst), ?_⟩
    have er : (letS Y S i a bs x).held (Y.pipe i).s = S.held (Y.pipe i).s - a := if_pos rfl
    rw [er]
    refine k _ ⟨lv, lp, lh, lu, dc, c.to (S' := letS Y S i a bs x) ⟨dx, ob5⟩ h5 u5 upd_same (cm_tail _ (by rw [← hcm]; exact c.cm) hk hi hbl) (.inl rfl) fun b o e _ n1 n2 n3 => k5 b o e n1 n2 n3, op, oh, ou, oc, ov, opp⟩ fun b o e no => ?_
    exact k5 b o (s1 _ _ e) (kp_ne e no c0.held oh (fun _ z => by cases z)) (kp_ne e no c0.used ou (fun _ z => by cases z)) (kp_ne e no c0.com oc (fun _ z => by cases z))
end
end Vy

/-! VyPlayD: a Play goes on. -/
namespace Vy
open PyProof.Rows PySem PySem.Spec L2

/-! ### lists of ints as data -/
theorem canLay_ints : ∀ ns : List Int, PyData.canLayAll0 (ns.map PyData.int) = true
  | [] => rfl
  | n :: r => by
    show PyData.canLayAll0 (.int n :: r.map PyData.int) = true
    rw [PyData.canLayAll0, canLay_ints r]
    rfl
theorem depth_ints : ∀ ns : List Int, PyData.depthAll (ns.map PyData.int) = 0
  | [] => by
    simp [PyData.depthAll]
  | n :: r => by
    show PyData.depthAll (.int n :: r.map PyData.int) = 0
    rw [PyData.depthAll, depth_ints r]
    simp [PyData.depth]
theorem shaped_ints (ns : List Int) : SeqAt.shaped (.list (ns.map PyData.int)) = true := by
  unfold SeqAt.shaped
  have h1 : (PyData.list (ns.map PyData.int)).canLay0 = true := by rw [PyData.canLay0]; exact canLay_ints ns
  have h2 : (PyData.list (ns.map PyData.int)).depth ≤ 64 := by
    rw [PyData.depth, depth_ints]
    omega
  rw [h1, decide_eq_true h2]
  rfl
theorem dp_ints {K : PySem.W.Frag} {H : Hp} : ∀ ns : List Int, DpAll K H (ns.map V.int) (ns.map PyData.int)
  | [] => .nil
  | n :: r => .cons (.int n) (dp_ints r)
theorem natsV_ints (l : List Nat) : natsV l = (l.map fun (i : Nat) => (i : Int)).map V.int := by
  unfold natsV
  rw [List.map_map]
  rfl
theorem eqv_nil (ns : List Int) : PyData.eqv (.list (ns.map PyData.int)) (.list []) = ns.isEmpty := by
  cases ns with
  | nil => rfl
  | cons n r => rfl
/-- what an own exception class must have, TooFull's say -/
structure XTxt (K : PySem.W.Frag) (mg : Str → Option Value) (x : Str) (C : Addr) : Prop where
  ex : PySem.W.excIn K C [.type "ValueError", .type "Exception", .type "BaseException", .type "object"] "ValueError.__new__" = true
  g : mg x = some (.ref C)
  kp : PySem.W.keepIn K (Value.ref C) = true
  b : PySem.W.subIn K (.ref C) (.type "BaseException") = some true
  t : PySem.W.typeIn K (.ref C) = some (.type "type")
theorem gain_snoc (Y : Yd) (t k : Nat) (l : List (Nat × Nat × Int)) (e : Nat × Nat × Int) : gain Y t k (l ++ [e]) = gain Y t k l + (if e.1 = t ∧ (Y.pipe e.2.1).g = k then e.2.2 else 0) := by
  unfold gain
  rw [List.map_append, List.sum_append]
  simp
theorem take_snoc {α : Type} {l : List α} {i : Nat} {x : α} (h : l[i]? = some x) : l.take (i + 1) = l.take i ++ [x] := by
  obtain ⟨h1, h2⟩ := List.getElem?_eq_some_iff.mp h
  rw [List.take_succ_eq_append_getElem h1, h2]

def spGoOn (C CF : Addr) (Y : Yd) : Sp := fun vs H Q E => ∃ (O : Addr → Prop) (p : Addr) (S : PS), vs = [.ref p] ∧ PlayAt C Y H O p S ∧ YOk Y ∧
  (fullL Y S.held = [] → ∀ H', PlayAt C Y H' (fun b => O b ∨ H b = none) p (goOn Y S) → Kp O H H' → Q (.int ((S.t + 1 : Nat) : Int)) H') ∧
  (fullL Y S.held ≠ [] → ∀ H', Same H H' → E (.ref CF) none H')
section
variable {K : PySem.W.Frag} {P : Program} {w : World} {mg : Str → Option Value} {base : Heap}
theorem scGoOn : FnScope ["self", "later", "key", "amount"] ["self"] (defScope sGoOn) := ⟨rfl, rfl, rfl, by decide +kernel, rfl, by decide +kernel, by decide +kernel⟩
theorem ok_goOn {f C CF : Addr} {fd : FuncData} {Y : Yd} (F : Fun K "go_on" "Play.go_on" sGoOn f fd) (T : PTxt K C) (B : BTxt mg) (XF : XTxt K mg "TooFull" CF) (dF : Md P w K mg base CX0 1 C "full" ["self"] (spFull C Y)) :
    FnOk P w K mg base (L2.CX P w) 2 f fd ["self"] (spGoOn C CF Y) := by
  refine F.okX scGoOn (fun vs H Q E h => ?_) (fun cdv A outer s H vs Q E hr h => ?_)
  · obtain ⟨O, p, S, rfl, _⟩ := h
    rfl
  · obtain ⟨O, p, S, rfl, hp, yo, kN, kF⟩ := h
    have hu := hu_of hr
    obtain ⟨lv, lp, lh, lu, dc, c, op, oh, ou, oc, ov, opp⟩ := id hp.core
    obtain ⟨dx, ob⟩ := c.ob
    obtain ⟨ys, q1, q2, q3⟩ := id c.pipes
    refine ⟨_, pss_cons (ps_if (pt_cmpR (op_neD hr.units) (pe_md0 dF hr (by decide) pass0 (pv 0)) (pe_lst pa_nil) (nomark _)) (pss_one (ps_raise rfl (takes_of rfl rfl rfl rfl) (pmk_own PySem.F.excBase_ValueError XF.ex XF.g XF.kp (raises_own XF.b XF.t) rfl))) pss_nil)
      (PSs.nox (pss_cons (ps_fldaug (pv 0) pe_int in_add)
      (pss_cons (ps_fld (pv 0) (pe_op op_rep (pe_lst (pa_cons pe_int pa_nil)) (pe_callB call_len_seq (by rfl) B.len PySem.boot_len (pa_cons (pe_fld (pv 0) rfl) pa_nil))) rfl)
      (pss_cons (ps_set (i := 1) scGoOn.nd rfl (Or.inl rfl) pe_dnewT)
      (pss_cons (ps_lock (ps_for PassesOwn.never rfl (pi_itemsT (pe_fld (pv 0) rfl)) (pg_tup rfl (pgs_cons (pg_name (i := 2) scGoOn.nd rfl (Or.inl rfl)) (pgs_cons (pg_name (i := 3) scGoOn.nd rfl (Or.inl rfl)) pgs_nil)))
        (pss_one (ps_if (pt_cmpR op_eq (pe_ix ix_tup (pv 2) pe_int (fun _ _ => rfl)) (pe_fld (pv 0) rfl) (nomark _))
          (pss_one (ps_augS (pe_fld (pv 0) rfl) (pe_ix ix_tup (pe_ix ix_list (pe_fld (pv 0) rfl) (pe_ix ix_tup (pv 2) pe_int (fun _ _ => rfl)) (fun _ _ => rfl)) pe_int (fun _ _ => rfl)) get_list (pv 3) ip_add set_list))
          (pss_one (ps_dput hu (pv 1) (pv 2) (pv 3) rfl))))))
      (pss_cons (ps_fld (pv 0) (pv 1) rfl)
      (pss_one (ps_ret (pe_fld (pv 0) rfl))))))))), ?_⟩
    -- is a vat full
    refine ⟨_, rfl, p, dx, _, rfl, ob, pf_no _ _ _ _ _ _ (by decide +kernel), O, p, S, rfl, hp, yo, fun q H1 s1 fq hq => ⟨(by show 0 ≤ sizeLine; decide), fun z fz => ?_⟩⟩
    have s2 := same_upd (o := .lst []) fz
    rw [natsV_ints] at hq
    refine ⟨_, _, .lst (SqL.of (s2 _ _ hq)) (dp_ints _), .lst (SqL.of upd_same) .nil, shaped_ints _, shaped_ints [], _, rfl, ?_⟩
    rw [eqv_nil]
    by_cases hf : fullL Y S.held = []
    case neg =>
      have e : ((fullL Y S.held).map fun (i : Nat) => (i : Int)).isEmpty = false := by
        cases e : fullL Y S.held with
        | nil => exact absurd e hf
        | cons x r => rfl
      rw [e]
      exact kF hf _ (s1.trans s2)
    rw [hf]
    have g1 : Stg H (upd H1 z (.lst [])) p C dx (pf lv lp S.t lh lu dc) := ⟨fun b o e _ => s2 _ _ (s1 _ _ e), s2 _ _ (s1 _ _ ob)⟩
    generalize upd H1 z (.lst []) = G1 at g1 ⊢
    have npv : ∀ {l : Addr} {zs : List V}, H l = some (.lst zs) → l ≠ p := fun h => ne_of h ob (by intro z; cases z)
    have npt : ∀ {l : Addr} {zs : List V}, H l = some (.tup zs) → l ≠ p := fun h => ne_of h ob (by intro z; cases z)
    have npc : dc ≠ p := ne_of c.com ob (by intro z; cases z)
    -- the next moment
    refine ⟨_, rfl, p, C, dx, _, _, rfl, g1.at_, T.cl, T.nM, pfM _ _ _ _ _ _, _, _, rfl, rfl, dx, _, g1.at_, (by show 6 < 1000; decide), ?_⟩
    rw [puM]
    have g2 := g1.put (fs' := pf lv lp (S.t + 1) lh lu dc)
    generalize upd G1 p (.ins C dx (pf lv lp (S.t + 1) lh lu dc)) = G2 at g2 ⊢
    -- nothing used yet
    refine ⟨(by show 1 ≤ sizeLine; decide), fun z0 f0 => ?_⟩
    have g3 := g2.new (o := .lst [V.int 0]) f0
    refine ⟨_, rfl, p, C, dx, _, _, rfl, g3.at_, T.cl, T.nP, pfP _ _ _ _ _ _, lp, _, rfl, .inl (SqL.of (g3.old _ _ q1 (npv q1))), z0, _, _, rfl, rfl, upd_same, (by omega), ?_, ?_, fun lu' fu => ?_⟩
    · have z2 := yo.m
      omega
    · have z2 := yo.m
      show 1 * ((ys.length : Nat) : Int).toNat ≤ sizeLine
      rw [sizeLine_eq]
      omega
    have eu : (List.replicate ((ys.length : Nat) : Int).toNat [V.int 0]).flatten = lsI Y.m (fun _ => 0) := by
      rw [Int.toNat_natCast, q2]
      exact lsI_rep _
    rw [eu]
    have g4 := g3.new (o := .lst (lsI Y.m (fun _ => 0))) fu
    have hu0 : H lu' = none := g3.free ob fu
    have nup : lu' ≠ p := fun z => by rw [z, g3.at_] at fu; cases fu
    refine ⟨_, rfl, p, C, dx, _, rfl, g4.at_, T.cl, T.nU, (by show 6 < 1000; decide), ?_⟩
    rw [puU]
    have g5 := g4.put (fs' := pf lv lp (S.t + 1) lh lu' dc)
    have a5 := (upd_ne (H := upd (upd G2 z0 (.lst [V.int 0])) lu' (.lst (lsI Y.m (fun _ => 0)))) (o := .ins C dx (pf lv lp (S.t + 1) lh lu' dc)) nup).trans upd_same
    generalize upd (upd (upd G2 z0 (.lst [V.int 0])) lu' (.lst (lsI Y.m (fun _ => 0)))) p (.ins C dx (pf lv lp (S.t + 1) lh lu' dc)) = G5 at g5 a5 ⊢
    -- nothing later yet
    intro l fl
    have g6 := g5.new (o := .dT []) fl
    have a6 := same_upd (o := .dT []) fl _ _ a5
    have hl0 : H l = none := g5.free ob fl
    have nlp : l ≠ p := fun z => by rw [z, g5.at_] at fl; cases fl
    have nul : lu' ≠ l := ne_of_none a5 fl
    have b6 : (upd G5 l (.dT [])) l = some (.dT []) := upd_same
    generalize upd G5 l (.dT []) = G at g6 a6 b6 ⊢
    -- what comes now, what comes later
    have hdc := g6.old _ _ c.com npc
    have ndl : dc ≠ l := fun z => by
      rw [z] at hdc
      have e := c.com
      rw [z, hl0] at e
      cases e
    have ndh : lh ≠ dc := ne_of c.held c.com (by intro z; cases z)
    have nhl : lh ≠ l := ne_of_none c.held hl0
    have nuh : lu' ≠ lh := fun z => by
      have e := c.held
      rw [← z, hu0] at e
      cases e
    have nud : lu' ≠ dc := fun z => by
      have e := c.com
      rw [← z, hu0] at e
      cases e
    refine ⟨dc, _, hdc, trivial, fun od => ?_⟩
    have f6 : ∀ b o, G b = some o → b ≠ dc → upd G dc (.frz od (.dT (S.com.map ent))) b = some o := fun b o e n => by rw [upd_ne n]; exact e
    have f7 : upd G dc (.frz od (.dT (S.com.map ent))) dc = some (.frz od (.dT (S.com.map ent))) := upd_same
    have e7 : ∀ H', H' dc = some (.frz od (.dT (S.com.map ent))) → ∀ b o, (b ≠ dc → H' b = some o) → b ≠ dc → upd H' dc (.dT (S.com.map ent)) b = some o := fun H' _ b o h n => by rw [upd_ne n]; exact h n
    generalize upd G dc (.frz od (.dT (S.com.map ent))) = GL at f6 f7 ⊢
    have obL := f6 _ _ g6.at_ (Ne.symm npc)
    refine ⟨_, rfl, p, C, dx, _, _, rfl, obL, T.cl, T.nC, pfC _ _ _ _ _ _, dc, od, _, rfl, f7, for_itemsT
      (fun i σ H' => ∃ v2 v3 : Option V, σ = [some (.ref p), some (.ref l), v2, v3] ∧ H' lh = some (.lst (lsI Y.n fun k => S.held k + gain Y (S.t + 1) k (S.com.take i))) ∧
        H' l = some (.dT (((S.com.take i).filter fun e => decide (e.1 ≠ S.t + 1)).map ent)) ∧ ∀ b o, GL b = some o → b ≠ lh → b ≠ l → H' b = some o) ?_ ?_ ?_ ?_⟩
    · refine ⟨none, none, rfl, ?_, f6 _ _ b6 (Ne.symm ndl), fun b o e _ _ => e⟩
      rw [f6 _ _ (g6.old _ _ c.held (npv c.held)) ndh]
      have e : lsI Y.n S.held = lsI Y.n (fun k => S.held k + gain Y (S.t + 1) k (S.com.take 0)) := lsI_congr fun i _ => by
        show S.held i = S.held i + 0
        omega
      rw [e]
    · rintro i σ H' ⟨v2, v3, rfl, _, _, h4⟩
      exact h4 _ _ f7 (Ne.symm ndh) ndl
    · rintro i k v U r σ H' hkv ⟨v2, v3, rfl, hh, hL, hk⟩ hU hr'
      obtain ⟨e, he, heq⟩ : ∃ e, S.com[i]? = some e ∧ ent e = (k, v) := by
        rw [List.getElem?_map] at hkv
        cases e : S.com[i]? with
        | none =>
          rw [e] at hkv
          cases hkv
        | some x =>
          rw [e] at hkv
          exact ⟨x, rfl, Option.some.inj hkv⟩
      have ek : kyK (ky e) = k := congrArg Prod.fst heq
      have ev : V.int e.2.2 = v := congrArg Prod.snd heq
      subst ek ev
      have hrk : H' r = some (.tup [V.int (e.1 : Int), V.int (e.2.1 : Int)]) := hr'
      have sU := same_upd (o := .tup [.ref r, V.int e.2.2]) hU
      have hi := c.cm.pipe e (List.mem_of_getElem? he)
      obtain ⟨t, g, q4, q5, q6⟩ := q3 e.2.1 hi
      have ob8 := sU _ _ (hk _ _ obL (Ne.symm (npv c.held)) (Ne.symm nlp))
      have r8 := sU _ _ hrk
      have hh8 := sU _ _ hh
      have hL8 := sU _ _ hL
      have n1l : lp ≠ l := ne_of_none q1 hl0
      have q18 := sU _ _ (hk _ _ (f6 _ _ (g6.old _ _ q1 (npv q1)) (ne_of q1 c.com (by intro z; cases z))) c.n3 n1l)
      have q58 := sU _ _ (hk _ _ (f6 _ _ (g6.old _ _ q5 (npt q5)) (ne_of q5 c.com (by intro z; cases z))) (ne_of q5 c.held (by intro z; cases z)) (ne_of_none q5 hl0))
      have k8 : ∀ b o, GL b = some o → b ≠ lh → b ≠ l → upd H' U (.tup [.ref r, V.int e.2.2]) b = some o := fun b o x n1 n2 => sU _ _ (hk b o x n1 n2)
      refine ⟨U, _, rfl, SqT.of upd_same, rfl, _, _, rfl, _, _, rfl, rfl, ?_⟩
      generalize upd H' U (.tup [.ref r, V.int e.2.2]) = H8 at ob8 r8 hh8 hL8 q18 q58 k8 ⊢
      have etk := take_snoc he
      have hgn := (yo.ends _ hi).2
      refine ⟨_, rfl, r, _, _, _, rfl, rfl, SqT.of r8, at_of (j := 0) rfl rfl, _, rfl, p, C, dx, _, _, rfl, ob8, T.cl, T.nM, pfM _ _ _ _ _ _, rfl, _, rfl, ite2D (fun hc => ?_) (fun hc => ?_)⟩
      · -- it comes
        have hc' : e.1 = S.t + 1 := by
          have z := V.int.inj hc
          omega
        refine ⟨_, rfl, p, C, dx, _, _, rfl, ob8, T.cl, T.nH, pfH _ _ _ _ _ _, _, rfl, p, C, dx, _, _, rfl, ob8, T.cl, T.nP, pfP _ _ _ _ _ _, _, rfl, r, _, _, _, rfl, rfl, SqT.of r8, at_of (j := 1) rfl rfl, lp, _, _, _, rfl, rfl, SqL.of q18, atI_nat q4, t, _, _, _, rfl, rfl, SqT.of q58, at_of (j := 1) rfl rfl,
          lh, _, _, _, rfl, rfl, SqL.of hh8, lsI_get _ hgn, _, rfl, _, _, rfl, rfl, lh, _, _, _, rfl, rfl, hh8, ixN_nat (by rw [lsI_len]; exact hgn), ?_⟩
        refine ⟨_, _, rfl, ?_, ?_, fun b o x n1 n2 => by rw [upd_ne n1]; exact k8 b o x n1 n2⟩
        · rw [upd_same, lsI_set]
          refine congrArg (fun x => some (HO.lst x)) (lsI_congr fun j _ => ?_)
          rw [etk, gain_snoc]
          by_cases hj : j = (Y.pipe e.2.1).g
          · subst hj
            rw [if_pos rfl, if_pos ⟨hc', rfl⟩]
            exact Int.add_assoc _ _ _
          · rw [if_neg hj, if_neg fun z => hj z.2.symm]
            omega
        · rw [upd_ne (Ne.symm nhl), hL8, etk, List.filter_append, List.filter_cons_of_neg (by simp [hc']), List.filter_nil, List.append_nil]
      · -- it comes later
        have hc' : ¬ e.1 = S.t + 1 := fun z => hc (by rw [z]; rfl)
        have hln : ((S.com.take i).filter fun e => decide (e.1 ≠ S.t + 1)).length < sizeLine := by
          have z1 := List.length_filter_le (fun e : Nat × Nat × Int => decide (e.1 ≠ S.t + 1)) (S.com.take i)
          have z2 := c.cm.len
          rw [List.length_take] at z1
          exact small1000 (by omega)
        refine ⟨_, rfl, _, rfl, _, rfl, l, _, rfl, DPut.t (k := kyK (ky e)) hL8 r8 (by rw [List.length_map]; exact hln), ?_⟩
        have nk : ¬ ky e ∈ ((S.com.take i).filter fun e => decide (e.1 ≠ S.t + 1)).map ky := by
          intro z
          obtain ⟨y, hy, hye⟩ := List.mem_map.mp z
          have hy2 := (List.mem_filter.mp hy).1
          have nd := c.cm.nd
          rw [← List.take_append_drop (i + 1) S.com, etk, List.map_append, List.map_append] at nd
          have nd1 := (List.nodup_append.mp nd).1
          have nd2 := (List.nodup_append.mp nd1).2.2
          exact nd2 _ (List.mem_map.mpr ⟨y, hy2, rfl⟩) _ (List.mem_singleton.mpr rfl) hye
        rw [putK_new _ (val_out nk)]
        refine ⟨_, _, rfl, ?_, ?_, fun b o x n1 n2 => by rw [upd_ne n2]; exact k8 b o x n1 n2⟩
        · rw [upd_ne nhl, hh8]
          refine congrArg (fun x => some (HO.lst x)) (lsI_congr fun j _ => ?_)
          rw [etk, gain_snoc, if_neg fun z => hc' z.1]
          omega
        · rw [upd_same, etk, List.filter_append, List.filter_cons_of_pos (by simp [hc']), List.filter_nil, List.map_append]
          rfl
    · rintro σ H' ⟨v2, v3, rfl, hh, hL, hk⟩
      rw [List.length_map, List.take_length] at hh hL
      have fz := hk _ _ f7 (Ne.symm ndh) ndl
      refine ⟨fz, ?_⟩
      have ob9 : upd H' dc (.dT (S.com.map ent)) p = some (.ins C dx (pf lv lp (S.t + 1) lh lu' dc)) := by rw [upd_ne (Ne.symm npc)]; exact hk _ _ obL (Ne.symm (npv c.held)) (Ne.symm nlp)
      have hh9 : upd H' dc (.dT (S.com.map ent)) lh = some (.lst (lsI Y.n (goOn Y S).held)) := by rw [upd_ne ndh]; exact hh
      have hL9 : upd H' dc (.dT (S.com.map ent)) l = some (.dT ((goOn Y S).com.map ent)) := by rw [upd_ne (Ne.symm ndl)]; exact hL
      have hu9 : upd H' dc (.dT (S.com.map ent)) lu' = some (.lst (lsI Y.m (goOn Y S).used)) := by rw [upd_ne nud]; exact hk _ _ (f6 _ _ a6 nud) nuh nul
      have k9 : ∀ b o, H b = some o → b ≠ p → b ≠ lh → b ≠ dc → upd H' dc (.dT (S.com.map ent)) b = some o := fun b o x n1 n2 n3 => by
        rw [upd_ne n3]
        exact hk _ _ (f6 _ _ (g6.old _ _ x n1) n3) n2 (ne_of_none x hl0)
      generalize upd H' dc (.dT (S.com.map ent)) = H9 at ob9 hh9 hL9 hu9 k9 ⊢
      -- the later ones are coming
      refine ⟨_, rfl, _, rfl, p, C, dx, _, rfl, ob9, T.cl, T.nC, (by show 6 < 1000; decide), ?_⟩
      rw [puC]
      -- the answer
      refine ⟨_, rfl, p, C, dx, _, _, rfl, upd_same, T.cl, T.nM, pfM _ _ _ _ _ _, ?_⟩
      have et : (S.t : Int) + 1 = ((S.t + 1 : Nat) : Int) := by omega
      rw [et]
      refine kN hf _ ⟨lv, lp, lh, lu', l, c.to (S' := goOn Y S) ⟨dx, ?_⟩ ?_ ?_ ?_ ?_ (.inr hu0) fun b o x n1 n2 n3 n4 => ?_, .inl op, .inl oh, .inr hu0, .inr hl0, .inl ov, .inl opp⟩ fun b o x no => ?_
      · exact upd_same
      · rw [upd_ne (npv c.held)]; exact hh9
      · rw [upd_ne nup]; exact hu9
      · rw [upd_ne nlp]; exact hL9
      · have zf : (S.com.filter fun e => decide (e.1 ≠ S.t + 1)).Sublist S.com := List.filter_sublist
        exact ⟨fun x hx => c.cm.pipe x (zf.subset hx), (zf.map ky).nodup c.cm.nd, Nat.le_trans zf.length_le c.cm.len⟩
      · rw [upd_ne n1]; exact k9 b o x n1 n2 n4
      · have np := kp_ne x no ob op (fun _ z => by cases z)
        rw [upd_ne np]
        exact k9 b o x np (kp_ne x no c.held oh (fun _ z => by cases z)) (kp_ne x no c.com oc (fun _ z => by cases z))
end
end Vy

/-! VySort: lists of triples of ints, sorted; what a Play has under way. -/
namespace Vy
open PyProof.Rows PySem PySem.Spec L2

def trI (e : Nat × Nat × Int) : List Int := [(e.1 : Int), (e.2.1 : Int), e.2.2]
def BB : Int := 10000000000000
def cd (e : Nat × Nat × Int) : Int := TS.code BB (trI e)
def BdT (e : Nat × Nat × Int) : Prop := (e.1 : Int) < BB ∧ (e.2.1 : Int) < BB ∧ 0 ≤ e.2.2 ∧ e.2.2 < BB
theorem cd_eq (e : Nat × Nat × Int) : cd e = (e.1 : Int) * 100000000000000000000000000 + ((e.2.1 : Int) * 10000000000000 + e.2.2) := by
  show (e.1 : Int) * BB ^ 2 + ((e.2.1 : Int) * BB ^ 1 + (e.2.2 * BB ^ 0 + 0)) = _
  have h2 : BB ^ 2 = 100000000000000000000000000 := by decide
  have h1 : BB ^ 1 = 10000000000000 := by decide
  have h0 : BB ^ 0 = 1 := by decide
  rw [h2, h1, h0]
  omega
theorem cd_inj {e f : Nat × Nat × Int} (he : BdT e) (hf : BdT f) (h : cd e = cd f) : e = f := by
  obtain ⟨a, b, c⟩ := e
  obtain ⟨a', b', c'⟩ := f
  rw [cd_eq, cd_eq] at h
  obtain ⟨h1, h2, h3, h4⟩ := he
  obtain ⟨k1, k2, k3, k4⟩ := hf
  unfold BB at h1 h2 h4 k1 k2 k4
  simp only at h h1 h2 h3 h4 k1 k2 k3 k4
  have ea : a = a' := by omega
  subst ea
  have eb : b = b' := by omega
  subst eb
  have ec : c = c' := by omega
  subst ec
  rfl
theorem bd_tr {e : Nat × Nat × Int} (h : BdT e) : TS.Bd BB (trI e) := by
  obtain ⟨h1, h2, h3, h4⟩ := h
  intro m hm
  unfold trI at hm
  simp only [List.mem_cons, or_false, List.not_mem_nil] at hm
  rcases hm with rfl | rfl | rfl
  · exact ⟨Int.natCast_nonneg _, h1⟩
  · exact ⟨Int.natCast_nonneg _, h2⟩
  · exact ⟨h3, h4⟩
/-- in the order of moments, pipes, amounts -/
def srt (l : List (Nat × Nat × Int)) : List (Nat × Nat × Int) := l.mergeSort fun e f => decide (cd e ≤ cd f)
theorem srt_perm (l : List (Nat × Nat × Int)) : (srt l).Perm l := List.mergeSort_perm l _
theorem srt_up (l : List (Nat × Nat × Int)) : (srt l).Pairwise fun e f => cd e ≤ cd f := by
  have h := List.pairwise_mergeSort (le := fun e f : Nat × Nat × Int => decide (cd e ≤ cd f)) (fun a b c h1 h2 => by
    have h1 := of_decide_eq_true h1
    have h2 := of_decide_eq_true h2
    exact decide_eq_true (Int.le_trans h1 h2)) (fun a b => by
      by_cases z : cd a ≤ cd b
      · simp [z]
      · have z' : cd b ≤ cd a := by omega
        simp [z']) l
  exact h.imp fun h => of_decide_eq_true h
theorem srt_is {l l' : List (Nat × Nat × Int)} (hb : ∀ e, e ∈ l → BdT e) (hp : l'.Perm l) (hu : l'.Pairwise fun e f => cd e ≤ cd f) : l' = srt l :=
  (hp.trans (srt_perm l).symm).eq_of_pairwise (fun a b ha hb' h1 h2 => cd_inj (hb a (hp.mem_iff.mp ha)) (hb b ((srt_perm l).mem_iff.mp hb')) (Int.le_antisymm h1 h2)) hu (srt_up l)

abbrev TriR (H : Hp) (x : V) (e : Nat × Nat × Int) : Prop := ∃ a : Addr, x = .ref a ∧ H a = some (.tup ((trI e).map V.int))
/-- the values are tuples of these triples -/
abbrev Tris (H : Hp) : List V → List (Nat × Nat × Int) → Prop := Paired (TriR H)
theorem Tris.same {H H' : Hp} (s : Same H H') {xs : List V} {l : List (Nat × Nat × Int)} (h : Tris H xs l) : Tris H' xs l := L2.Paired.mapP h fun _ _ ⟨a, e, h⟩ => ⟨a, e, s _ _ h⟩
theorem Tris.keep {H H' : Hp} (s : ∀ b ys, H b = some (.tup ys) → H' b = some (.tup ys)) {xs : List V} {l : List (Nat × Nat × Int)} (h : Tris H xs l) : Tris H' xs l := L2.Paired.mapP h fun _ _ ⟨a, e, h⟩ => ⟨a, e, s _ _ h⟩
theorem pmem {α β : Type} {F : α → β → Prop} : ∀ {l₁ : List α} {l₂ : List β} {y : β}, Paired F l₁ l₂ → y ∈ l₂ → ∃ x, x ∈ l₁ ∧ F x y
  | _, _, _, .nil, h => absurd h (by simp)
  | _, _, y, .cons r t, h => by
    rcases (List.mem_cons).mp h with e | h
    · exact ⟨_, List.mem_cons_self, by rw [e]; exact r⟩
    · obtain ⟨x, hx, hF⟩ := pmem t h
      exact ⟨x, List.mem_cons_of_mem _ hx, hF⟩
theorem pmem1 {α β : Type} {F : α → β → Prop} : ∀ {l₁ : List α} {l₂ : List β} {x : α}, Paired F l₁ l₂ → x ∈ l₁ → ∃ y, y ∈ l₂ ∧ F x y
  | _, _, _, .nil, h => absurd h (by simp)
  | _, _, x, .cons r t, h => by
    rcases (List.mem_cons).mp h with e | h
    · exact ⟨_, List.mem_cons_self, by rw [e]; exact r⟩
    · obtain ⟨y, hy, hF⟩ := pmem1 t h
      exact ⟨y, List.mem_cons_of_mem _ hy, hF⟩
theorem pperm {α β : Type} {F : α → β → Prop} {ys xs : List α} (hp : ys.Perm xs) : ∀ {l : List β}, Paired F xs l → ∃ l', l'.Perm l ∧ Paired F ys l' := by
  induction hp with
  | nil => exact fun h => ⟨_, .refl _, h⟩
  | cons x _ ih =>
    intro l h
    cases h with
    | cons r t =>
      obtain ⟨l', h1, h2⟩ := ih t
      exact ⟨_, h1.cons _, .cons r h2⟩
  | swap x y l =>
    intro m h
    cases h with
    | cons r t =>
      cases t with
      | cons r' t' => exact ⟨_, .swap _ _ _, .cons r' (.cons r t')⟩
  | trans _ _ ih1 ih2 =>
    intro l h
    obtain ⟨l1, h1, h2⟩ := ih2 h
    obtain ⟨l2, h3, h4⟩ := ih1 h2
    exact ⟨l2, h3.trans h1, h4⟩
theorem tri_tupI {K : PySem.W.Frag} {H : Hp} {x : V} {e : Nat × Nat × Int} (h : TriR H x e) : TupI K H x (trI e) := by
  obtain ⟨a, e1, h⟩ := h
  exact ⟨a, e1, SqT.of h⟩
theorem tris_up {K : PySem.W.Frag} {H : Hp} : ∀ {ys : List V} {l : List (Nat × Nat × Int)}, Tris H ys l → ys.Pairwise (fun x y => ∀ n m, TupI K H x n → TupI K H y m → TS.code BB n ≤ TS.code BB m) → l.Pairwise fun e f => cd e ≤ cd f
  | _, _, .nil, _ => .nil
  | _, _, .cons r t, h => by
    obtain ⟨h1, h2⟩ := (List.pairwise_cons).mp h
    refine List.pairwise_cons.mpr ⟨fun f hf => ?_, tris_up t h2⟩
    obtain ⟨y, hy, hr⟩ := pmem t hf
    exact h1 y hy _ _ (tri_tupI r) (tri_tupI hr)
theorem tris_sorted {K : PySem.W.Frag} {H : Hp} {xs ys : List V} {l : List (Nat × Nat × Int)} (hb : ∀ e, e ∈ l → BdT e) (hx : Tris H xs l) (hp : ys.Perm xs) (hu : ys.Pairwise (fun x y => ∀ n m, TupI K H x n → TupI K H y m → TS.code BB n ≤ TS.code BB m)) : Tris H ys (srt l) := by
  obtain ⟨l', h1, h2⟩ := pperm hp hx
  rw [← srt_is hb h1 (tris_up h2 hu)]
  exact h2
theorem tris_len {H : Hp} {xs : List V} {l : List (Nat × Nat × Int)} (h : Tris H xs l) : xs.length = l.length := Paired.length h
/-! as data -/
def triD (e : Nat × Nat × Int) : PyData := .tuple ((trI e).map PyData.int)
theorem dp_tris {K : PySem.W.Frag} {H : Hp} : ∀ {xs : List V} {l : List (Nat × Nat × Int)}, Tris H xs l → DpAll K H xs (l.map triD)
  | _, _, .nil => .nil
  | _, _, .cons ⟨a, e, h⟩ t => by
    subst e
    exact .cons (.tup (SqT.of h) (dp_ints _)) (dp_tris t)
theorem canLay_tris : ∀ l : List (Nat × Nat × Int), PyData.canLayAll0 (l.map triD) = true
  | [] => rfl
  | e :: r => by
    show PyData.canLayAll0 (triD e :: r.map triD) = true
    rw [PyData.canLayAll0, canLay_tris r, triD, PyData.canLay0, canLay_ints]
    rfl
theorem depth_tris : ∀ l : List (Nat × Nat × Int), PyData.depthAll (l.map triD) ≤ 1
  | [] => by
    simp [PyData.depthAll]
  | e :: r => by
    show PyData.depthAll (triD e :: r.map triD) ≤ 1
    rw [PyData.depthAll, triD, PyData.depth, depth_ints]
    have h := depth_tris r
    omega
theorem shaped_tris (l : List (Nat × Nat × Int)) : SeqAt.shaped (.list (l.map triD)) = true := by
  unfold SeqAt.shaped
  have h1 : (PyData.list (l.map triD)).canLay0 = true := by rw [PyData.canLay0]; exact canLay_tris l
  have h2 : (PyData.list (l.map triD)).depth ≤ 64 := by
    rw [PyData.depth]
    have h := depth_tris l
    omega
  rw [h1, decide_eq_true h2]
  rfl
end Vy

/-! VyUnder: what a Play has under way. -/
namespace Vy
open PyProof.Rows PySem PySem.Spec L2
def spUnder (C : Addr) (Y : Yd) : Sp := fun vs H Q _ => ∃ (O : Addr → Prop) (p : Addr) (S : PS), vs = [.ref p] ∧ PlayAt C Y H O p S ∧ (∀ e, e ∈ S.com → BdT e) ∧ S.com.length < 64 ∧
  ∀ q H' ys, Same H H' → H q = none → H' q = some (.lst ys) → Tris H' ys (srt S.com) → Q (.ref q) H'
section
variable {K : PySem.W.Frag} {P : Program} {w : World} {mg : Str → Option Value} {base : Heap}
theorem scUnder : FnScope ["self", "rows", "key", "amount"] ["self"] (defScope sUnder) := ⟨rfl, rfl, rfl, by decide +kernel, rfl, by decide +kernel, by decide +kernel⟩
theorem ok_under {f C : Addr} {fd : FuncData} {Y : Yd} (F : Fun K "under_way" "Play.under_way" sUnder f fd) (T : PTxt K C) (B : BTxt mg) : FnOk P w K mg base CX0 1 f fd ["self"] (spUnder C Y) := by
  refine F.ok scUnder (fun vs H Q E h => ?_) (fun cdv A outer s H vs Q E hr h => ?_)
  · obtain ⟨O, p, S, rfl, _⟩ := h
    rfl
  · obtain ⟨O, p, S, rfl, hp, hb, h64, k⟩ := h
    obtain ⟨lv, lp, lh, lu, dc, c, _⟩ := hp.core
    obtain ⟨dx, ob⟩ := c.ob
    refine ⟨_, pss_cons (ps_set (i := 1) scUnder.nd rfl (Or.inl rfl) (pe_lst pa_nil))
      (pss_cons (ps_lock (ps_for PassesOwn.never rfl (pi_itemsT (pe_fld (pv 0) rfl)) (pg_tup rfl (pgs_cons (pg_name (i := 2) scUnder.nd rfl (Or.inl rfl)) (pgs_cons (pg_name (i := 3) scUnder.nd rfl (Or.inl rfl)) pgs_nil)))
        (pss_one (ps_expr (pe_bm PySem.F.plainAttrs_list PySem.F.slot_list_append PySem.F.type_list_append mt_append (pv 1)
          (pa_cons (pe_tup (pa_cons (pe_ix ix_tup (pv 2) pe_int (fun _ _ => rfl)) (pa_cons (pe_ix ix_tup (pv 2) pe_int (fun _ _ => rfl)) (pa_cons (pv 3) pa_nil)))) pa_nil))))))
      (pss_one (ps_ret (pe_callB (cr_sortT (d := 3) (B := BB) (by decide)) (by rfl) B.sorted (by decide +kernel) (pa_cons (pv 1) pa_nil))))), ?_⟩
    refine ⟨(by show 0 ≤ sizeLine; decide), fun r fr => ?_⟩
    have s1 := same_upd (o := .lst []) fr
    have r1 : upd H r (.lst []) r = some (.lst []) := upd_same
    generalize upd H r (.lst []) = G at s1 r1 ⊢
    have ndr : dc ≠ r := ne_of_none c.com fr
    have npd : p ≠ dc := ne_of ob c.com (by intro z; cases z)
    refine ⟨dc, _, s1 _ _ c.com, trivial, fun od => ?_⟩
    have f6 : ∀ b o, G b = some o → b ≠ dc → upd G dc (.frz od (.dT (S.com.map ent))) b = some o := fun b o e n => by rw [upd_ne n]; exact e
    have f7 : upd G dc (.frz od (.dT (S.com.map ent))) dc = some (.frz od (.dT (S.com.map ent))) := upd_same
    generalize upd G dc (.frz od (.dT (S.com.map ent))) = GL at f6 f7 ⊢
    refine ⟨_, rfl, p, C, dx, _, _, rfl, f6 _ _ (s1 _ _ ob) npd, T.cl, T.nC, pfC _ _ _ _ _ _, dc, od, _, rfl, f7, for_itemsT
      (fun i σ H' => ∃ (v2 v3 : Option V) (xs : List V), σ = [some (.ref p), some (.ref r), v2, v3] ∧ H' r = some (.lst xs) ∧ Tris H' xs (S.com.take i) ∧ ∀ b o, GL b = some o → b ≠ r → H' b = some o) ?_ ?_ ?_ ?_⟩
    · exact ⟨none, none, [], rfl, f6 _ _ r1 (Ne.symm ndr), .nil, fun b o e _ => e⟩
    · rintro i σ H' ⟨v2, v3, xs, rfl, _, _, h4⟩
      exact h4 _ _ f7 ndr
    · rintro i k v U q σ H' hkv ⟨v2, v3, xs, rfl, hx, ht, hk⟩ hU hq
      obtain ⟨e, he, heq⟩ : ∃ e, S.com[i]? = some e ∧ ent e = (k, v) := by
        rw [List.getElem?_map] at hkv
        cases e : S.com[i]? with
        | none =>
          rw [e] at hkv
          cases hkv
        | some x =>
          rw [e] at hkv
          exact ⟨x, rfl, Option.some.inj hkv⟩
      have ek : kyK (ky e) = k := congrArg Prod.fst heq
      have ev : V.int e.2.2 = v := congrArg Prod.snd heq
      subst ek ev
      have hqk : H' q = some (.tup [V.int (e.1 : Int), V.int (e.2.1 : Int)]) := hq
      have sU := same_upd (o := .tup [.ref q, V.int e.2.2]) hU
      refine ⟨U, _, rfl, SqT.of upd_same, rfl, _, _, rfl, _, _, rfl, rfl, ?_⟩
      have q8 := sU _ _ hqk
      have x8 := sU _ _ hx
      have t8 := ht.same sU
      have k8 : ∀ b o, GL b = some o → b ≠ r → upd H' U (.tup [.ref q, V.int e.2.2]) b = some o := fun b o x n => sU _ _ (hk b o x n)
      generalize upd H' U (.tup [.ref q, V.int e.2.2]) = H8 at q8 x8 t8 k8 ⊢
      refine ⟨_, rfl, .inl ⟨rfl, _, SqL.of x8⟩, _, rfl, q, _, _, _, rfl, rfl, SqT.of q8, at_of (j := 0) rfl rfl, _, rfl, q, _, _, _, rfl, rfl, SqT.of q8, at_of (j := 1) rfl rfl, _, rfl, (by show 3 ≤ sizeLine; decide), fun t ft => ?_⟩
      have st := same_upd (o := .tup [V.int (e.1 : Int), V.int (e.2.1 : Int), V.int e.2.2]) ft
      have nrt : r ≠ t := ne_of_none x8 ft
      have hlen : xs.length ≤ S.com.length := by
        rw [tris_len ht, List.length_take]
        omega
      refine ⟨r, xs, _, rfl, rfl, st _ _ x8, small1000 (by omega), ?_⟩
      refine ⟨_, _, xs ++ [V.ref t], rfl, upd_same, ?_, fun b o x n => by rw [upd_ne n]; exact st _ _ (k8 b o x n)⟩
      rw [take_snoc he]
      have tt : ∀ b zs, upd H8 t (.tup [V.int (e.1 : Int), V.int (e.2.1 : Int), V.int e.2.2]) b = some (.tup zs) → upd (upd H8 t (.tup [V.int (e.1 : Int), V.int (e.2.1 : Int), V.int e.2.2])) r (.lst (xs ++ [V.ref t])) b = some (.tup zs) := fun b zs x => by
        rw [upd_ne (ne_of x (st _ _ x8) (by intro z; cases z))]
        exact x
      refine Paired.snoc ((t8.same st).keep tt) ⟨t, rfl, ?_⟩
      exact tt _ _ upd_same
    · rintro σ H' ⟨v2, v3, xs, rfl, hx, ht, hk⟩
      rw [List.length_map, List.take_length] at ht
      refine ⟨hk _ _ f7 ndr, ?_⟩
      have x9 : upd H' dc (.dT (S.com.map ent)) r = some (.lst xs) := by rw [upd_ne (Ne.symm ndr)]; exact hx
      have t9 : Tris (upd H' dc (.dT (S.com.map ent))) xs S.com := ht.keep fun b zs x => by
        rw [upd_ne (ne_of x (hk _ _ f7 ndr) (by intro z; cases z))]
        exact x
      have k9 : Same H (upd H' dc (.dT (S.com.map ent))) := fun b o x => by
        by_cases hbd : b = dc
        · rw [hbd, upd_same, ← c.com, ← hbd]
          exact x
        · rw [upd_ne hbd]
          exact hk _ _ (f6 _ _ (s1 _ _ x) hbd) (ne_of_none x fr)
      generalize upd H' dc (.dT (S.com.map ent)) = H9 at x9 t9 k9 ⊢
      refine ⟨_, rfl, r, xs, rfl, SqL.of x9, by rw [tris_len t9]; exact h64, fun x hx' => ?_, fun ys q hp hu hq => ?_⟩
      · obtain ⟨e, he, hr'⟩ := pmem1 t9 hx'
        exact ⟨_, tri_tupI hr', rfl, bd_tr (hb e he)⟩
      · exact k q _ ys (k9.trans (same_upd hq)) (k9.free hq) upd_same ((tris_sorted hb t9 hp hu).same (same_upd hq))
end
end Vy

/-! VyLawA: the law's draws and comparisons. -/
namespace Vy
open PyProof.Rows PySem PySem.Spec L2
abbrev sDraw : Stmt := top 21
abbrev sPart : Stmt := top 22
abbrev sWhole : Stmt := top 23
abbrev sWholes : Stmt := top 24
/-- a draw: some whole number from 0 on -/
def spDraw (K : PySem.W.Frag) : Sp := fun vs H Q _ => ∃ (a : Addr) (ns : List Int) (k : Int), vs = [.ref a, .int k] ∧ SqL K H a (ns.map V.int) ∧ ns.length ≤ 63 ∧ 0 ≤ k ∧ k ≤ 100 ∧ ∀ (d : Int) (H' : Hp), Same H H' → 0 ≤ d → Q (.int d) H'
def spPart : Sp := fun vs H Q _ => ∃ (x y : Int), vs = [.int x, .int y] ∧ 0 ≤ x ∧ 0 ≤ y ∧ ∀ r : Int, 0 ≤ r → r ≤ y → Q (.int r) H
def spWhole : Sp := fun vs H Q _ => ∃ (x : Int), vs = [.int x, .int x] ∧ Q (.bl true) H
def spWholes : Sp := fun vs H Q _ => ∃ (a b : Addr) (ns : List Int), vs = [.ref a, .ref b] ∧ H a = some (.lst (ns.map V.int)) ∧ H b = some (.lst (ns.map V.int)) ∧ ns.length ≤ 1000 ∧ Q (.bl true) H
section
variable {K : PySem.W.Frag} {P : Program} {w : World} {mg : Str → Option Value} {base : Heap}
theorem ints_at {ns : List Int} {i : Nat} {y : V} (h : (ns.map V.int)[i]? = some y) : ∃ z, ns[i]? = some z ∧ y = V.int z := by
  rw [List.getElem?_map] at h
  cases e : ns[i]? with
  | none =>
    rw [e] at h
    cases h
  | some z =>
    rw [e] at h
    exact ⟨z, rfl, (Option.some.inj h).symm⟩
theorem scDraw : FnScope ["script", "k", "step", "found", "cell"] ["script", "k"] (defScope sDraw) := ⟨rfl, rfl, rfl, by decide +kernel, rfl, by decide +kernel, by decide +kernel⟩
theorem ok_draw {f : Addr} {fd : FuncData} (F : Fun K "_law_draw" "_law_draw" sDraw f fd) (B : BTxt mg) : FnOk P w K mg base CX0 1 f fd ["script", "k"] (spDraw K) := by
  refine F.ok scDraw (fun vs H Q E h => ?_) (fun cdv A outer s H vs Q E hr h => ?_)
  · obtain ⟨_, _, _, rfl, _⟩ := h
    rfl
  · obtain ⟨a, ns, k, rfl, hS, hlen, hk0, hk1, q⟩ := h
    refine ⟨_, pss_cons (ps_set (i := 2) scDraw.nd rfl (Or.inl rfl) (pe_op op_add pe_int (pe_op op_fdiv (pe_callB call_len_seq (by rfl) B.len PySem.boot_len (pa_cons (pv 0) pa_nil)) pe_int)))
      (pss_cons (ps_set (i := 3) scDraw.nd rfl (Or.inl rfl) (pe_op op_add (pe_op op_mul pe_int (pv 1)) pe_int))
      (pss_cons (ps_for PassesOwn.never rfl (pi_list (pe_slice3 (pv 0) (po_some (pe_op op_mod (pv 1) (pv 2))) po_none (po_some (pv 2)))) (pg_name (i := 4) scDraw.nd rfl (Or.inl rfl))
        (pss_one (ps_set (i := 3) scDraw.nd rfl (Or.inl rfl) (pe_op op_mod (pe_op op_add (pe_op op_mul (pv 3) (pe_op op_add (pe_op op_mul pe_int (pv 1)) pe_int)) (pv 4)) pe_int))))
      (pss_one (ps_ret (pe_op op_mod (pe_op op_mul (pv 3) (pe_op op_add (pe_op op_add (pe_op op_mod (pe_op op_fdiv (pv 3) pe_int) pe_int) (pe_op op_mul pe_int (pv 1))) pe_int)) pe_int))))), ?_⟩
    refine ⟨_, rfl, a, _, rfl, .inl hS, _, _, rfl, rfl, ⟨by decide, by decide⟩, _, _, rfl, rfl, ?_⟩
    rw [List.length_map]
    have hst : 0 < 1 + (ns.length : Int) / 8 := by omega
    refine ⟨_, rfl, _, _, rfl, rfl, .inl ⟨by decide, by decide⟩, _, _, rfl, rfl, ?_⟩
    refine ⟨_, rfl, _, rfl, _, rfl, _, _, rfl, rfl, hst, _, rfl, _, rfl, _, rfl, a, ns, rfl, hS, ?_, fun L ms fL hml => ?_⟩
    · intro z
      have z := Option.some.inj z
      omega
    have sL := same_upd (o := .lst (ms.map V.int)) fL
    have hL : upd H L (.lst (ms.map V.int)) L = some (.lst (ms.map V.int)) := upd_same
    generalize upd H L (.lst (ms.map V.int)) = G at sL hL ⊢
    refine ⟨L, rfl, ⟨_, SqL.of hL⟩, for_list (K := K) (a := L) (xs := ms.map V.int) (fun i σ H' => ∃ (fo : Int) (v : Option V), σ = [some (.ref a), some (.int k), some (.int (1 + (ns.length : Int) / 8)), some (.int fo), v] ∧ H' = G ∧ 0 ≤ fo ∧ fo < 999999000001)
      ⟨31 * k + 5, none, rfl, rfl, by omega, by omega⟩ (fun i σ H' _ ⟨_, _, _, e, _⟩ => by rw [e]; exact SqL.of hL) ?_ ?_⟩
    · rintro i y σ H' hi ⟨fo, v, rfl, rfl, h0, h1⟩
      obtain ⟨z, hz, rfl⟩ := ints_at hi
      refine ⟨_, rfl, _, rfl, _, _, rfl, rfl, .inl ⟨by decide, by decide⟩, _, _, rfl, rfl, _, _, rfl, rfl, .inl ⟨by omega, by omega⟩, _, rfl, _, _, rfl, rfl, _, _, rfl, rfl, (by show (0 : Int) < 999999000001; decide), ?_⟩
      exact ⟨_, _, rfl, rfl, Int.emod_nonneg _ (by decide), Int.emod_lt_of_pos _ (by decide)⟩
    · rintro σ H' ⟨fo, v, rfl, rfl, h0, h1⟩
      refine ⟨_, rfl, _, rfl, _, _, rfl, rfl, ⟨by decide, by decide⟩, _, _, rfl, rfl, (by show (0 : Int) < 99991; decide), _, rfl, _, _, rfl, rfl, .inl ⟨by decide, by decide⟩, _, _, rfl, rfl, _, _, rfl, rfl, _, _, rfl, rfl, .inl ⟨by omega, by omega⟩, _, _, rfl, rfl, (by show (0 : Int) < 999999000001; decide), ?_⟩
      exact q _ _ sL (Int.emod_nonneg _ (by decide))
theorem scPart : FnScope ["number", "most"] ["number", "most"] (defScope sPart) := ⟨rfl, rfl, rfl, by decide +kernel, rfl, by decide +kernel, by decide +kernel⟩
theorem ok_part {f : Addr} {fd : FuncData} (F : Fun K "_law_part" "_law_part" sPart f fd) (B : BTxt mg) : FnOk P w K mg base CX0 1 f fd ["number", "most"] spPart := by
  refine F.ok scPart (fun vs H Q E h => ?_) (fun cdv A outer s H vs Q E hr h => ?_)
  · obtain ⟨x, y, rfl, _⟩ := h
    rfl
  · obtain ⟨x, y, rfl, hx, hy, q⟩ := h
    refine ⟨_, pss_cons (ps_if (pt_cmpR op_eq (pe_op op_mod (pv 0) pe_int) pe_int (nomark _)) (pss_one (ps_ret (pe_callB (call_min2 rfl) (by rfl) B.min (by decide +kernel) (pa_cons (pe_op op_mod (pe_op op_fdiv (pv 0) pe_int) pe_int) (pa_cons (pv 1) pa_nil))))) pss_nil)
      (pss_one (ps_ret (pe_op op_mod (pe_op op_mul (pe_op op_fdiv (pv 0) pe_int) pe_int) (pe_op op_add (pv 1) pe_int)))), ?_⟩
    refine ⟨_, rfl, _, _, rfl, rfl, (by show (0 : Int) < 3; decide), rfl, _, rfl, ite2D (fun _ => ?_) (fun _ => ?_)⟩
    · refine ⟨_, rfl, _, _, rfl, rfl, ⟨by decide, by decide⟩, _, _, rfl, rfl, (by show (0 : Int) < 5; decide), _, rfl, _, _, rfl, ?_⟩
      have h0 := Int.emod_nonneg (x / 3) (show (5 : Int) ≠ 0 by decide)
      refine q _ ?_ ?_
      · split <;> omega
      · split <;> omega
    · refine ⟨_, rfl, _, _, rfl, rfl, ⟨by decide, by decide⟩, _, _, rfl, rfl, .inr ⟨by decide, by decide⟩, _, rfl, _, _, rfl, rfl, _, _, rfl, rfl, (by show 0 < y + 1; omega), ?_⟩
      have h0 := Int.emod_nonneg (x / 3 * 31) (show y + 1 ≠ 0 by omega)
      have h1 := Int.emod_lt_of_pos (x / 3 * 31) (show 0 < y + 1 by omega)
      exact q _ h0 (by omega)
theorem scWhole : FnScope ["found", "due"] ["found", "due"] (defScope sWhole) := ⟨rfl, rfl, rfl, by decide +kernel, rfl, by decide +kernel, by decide +kernel⟩
theorem ok_whole {f : Addr} {fd : FuncData} (F : Fun K "_law_whole" "_law_whole" sWhole f fd) (B : BTxt mg) : FnOk P w K mg base CX0 1 f fd ["found", "due"] spWhole := by
  refine F.ok scWhole (fun vs H Q E h => ?_) (fun cdv A outer s H vs Q E hr h => ?_)
  · obtain ⟨x, rfl, _⟩ := h
    rfl
  · obtain ⟨x, rfl, q⟩ := h
    refine ⟨_, pss_one (ps_ret (pe_and (pe_callB call_isi (by rfl) B.isi (by decide +kernel) (pa_cons (pv 0) (pa_cons (pe_bltn (v := .ty "int") (u := .type "int") (by rfl) B.int (by decide +kernel) rfl) pa_nil)))
      (pe_and (pe_not (pe_callB call_isi (by rfl) B.isi (by decide +kernel) (pa_cons (pv 0) (pa_cons (pe_bltn (v := .ty "bool") (u := .type "bool") (by rfl) B.bool (by decide +kernel) rfl) pa_nil))))
      (pe_one (pe_cmpR op_eq (pv 0) (pv 1) (nomark _)))))), ?_⟩
    refine ⟨_, rfl, _, _, _, _, true, rfl, .ty "int", .base (.int _), kit_ty (by decide +kernel), true, rfl, ?_⟩
    refine iteT (B := True) ⟨_, rfl, _, _, _, _, false, rfl, .ty "bool", .base (.int _), kit_ty (by decide +kernel), false, rfl, true, rfl, ?_⟩
    refine iteT (B := True) ⟨_, rfl, _, rfl, rfl, ?_⟩
    have e : decide (V.int x = V.int x) = true := decide_eq_true rfl
    rw [e]
    exact q
theorem scWholes : FnScope ["found", "due", "k"] ["found", "due"] (defScope sWholes) := ⟨rfl, rfl, rfl, by decide +kernel, rfl, by decide +kernel, by decide +kernel⟩
theorem ok_wholes {f : Addr} {fd : FuncData} (F : Fun K "_law_wholes" "_law_wholes" sWholes f fd) (B : BTxt mg) (dW : Df P w K mg base CX0 1 "_law_whole" ["found", "due"] spWhole) : FnOk P w K mg base CX0 2 f fd ["found", "due"] spWholes := by
  refine F.ok scWholes (fun vs H Q E h => ?_) (fun cdv A outer s H vs Q E hr h => ?_)
  · obtain ⟨a, b, ns, rfl, _⟩ := h
    rfl
  · obtain ⟨a, b, ns, rfl, ha, hb, hl, q⟩ := h
    refine ⟨_, pss_cons (ps_if (PW.pt (pw_or (pt_not (pt_val (pe_callB call_isi (by rfl) B.isi (by decide +kernel) (pa_cons (pv 0) (pa_cons (pe_bltn (v := .ty "list") (u := .type "list") (by rfl) B.list (by decide +kernel) rfl) pa_nil)))))
        (pw_or1 (pt_cmpR op_ne (pe_callB call_len_seq (by rfl) B.len PySem.boot_len (pa_cons (pv 0) pa_nil)) (pe_callB call_len_seq (by rfl) B.len PySem.boot_len (pa_cons (pv 1) pa_nil)) (nomark _))))) (pss_one ps_never) pss_nil)
      (pss_cons (ps_for PassesOwn.never rfl (pi_range1 (by rfl) B.range (pa_cons (pe_callB call_len_seq (by rfl) B.len PySem.boot_len (pa_cons (pv 1) pa_nil)) pa_nil)) (pg_name (i := 2) scWholes.nd rfl (Or.inl rfl))
        (pss_one (ps_if (pt_not (pt_val (pe_df dW hr (by decide) rfl pass0 (pa_cons (pe_ix ix_list (pv 0) (pv 2) (fun _ _ => rfl)) (pa_cons (pe_ix ix_list (pv 1) (pv 2) (fun _ _ => rfl)) pa_nil))))) (pss_one ps_never) pss_nil)))
      (pss_one (ps_ret (pe_bl)))), ?_⟩
    refine ⟨_, rfl, _, _, _, _, true, rfl, .ty "list", .base (.lst ha), kit_ty (by decide +kernel), true, rfl, ?_⟩
    refine iteF (A := True) ⟨_, rfl, a, _, rfl, .inl (SqL.of ha), _, rfl, b, _, rfl, .inl (SqL.of hb), rfl, _, rfl, ?_⟩
    rw [decide_eq_true (rfl : V.int ((ns.map V.int).length : Int) = V.int ((ns.map V.int).length : Int))]
    refine iteF (A := True) ?_
    refine ⟨_, rfl, b, _, rfl, .inl (SqL.of hb), _, rfl, ?_, ?_, for_range (lo := 0) (n := (((ns.map V.int).length : Nat) : Int).toNat) (fun i σ H' => ∃ v : Option V, σ = [some (.ref a), some (.ref b), v] ∧ H' = H) ⟨none, rfl, rfl⟩ ?_ ?_⟩
    · omega
    · rw [List.length_map]
      omega
    · rintro i σ H' hi ⟨v, rfl, rfl⟩
      rw [List.length_map, Int.toNat_natCast] at hi
      obtain ⟨z, hz⟩ : ∃ z, ns[i]? = some z := ⟨ns[i], List.getElem?_eq_getElem hi⟩
      have hz' : (ns.map V.int)[i]? = some (V.int z) := by rw [List.getElem?_map, hz]; rfl
      have e0 : (0 : Int) + (i : Int) = (i : Int) := by omega
      refine ⟨_, rfl, _, rfl, a, _, _, _, rfl, rfl, SqL.of ha, at_of (j := i) e0 hz', _, rfl, _, rfl, b, _, _, _, rfl, rfl, SqL.of hb, at_of (j := i) e0 hz', z, rfl, true, rfl, ?_⟩
      exact iteF (A := True) ⟨_, rfl, rfl⟩
    · rintro σ H' ⟨v, rfl, rfl⟩
      exact q
end
end Vy

/-! VyLawB: the law's yard: spots, vats, pipes. -/
namespace Vy
open PyProof.Rows PySem PySem.Spec L2
abbrev sSpots : Stmt := top 25
abbrev sVats : Stmt := top 26
abbrev sPipes : Stmt := top 27
/-- the script -/
def Scr (K : PySem.W.Frag) (H : Hp) (a : Addr) : Prop := ∃ ns : List Int, SqL K H a (ns.map V.int) ∧ ns.length ≤ 63
theorem Scr.same {K : PySem.W.Frag} {H H' : Hp} {a : Addr} (h : Scr K H a) (s : Same H H') : Scr K H' a := by
  obtain ⟨ns, h1, h2⟩ := h
  exact ⟨ns, s.seq h1, h2⟩
theorem lsI_snoc (n : Nat) (f : Nat → Int) : lsI (n + 1) f = lsI n f ++ [V.int (f n)] := by
  unfold lsI
  rw [List.range_succ, List.map_append]
  rfl
/-- all below n, no two alike -/
structure Inj (n : Nat) (sp : Nat → Nat) : Prop where
  lt : ∀ i, i < n → sp i < n
  inj : ∀ i j, i < n → j < n → sp i = sp j → i = j
def sw (sp : Nat → Nat) (k a : Nat) : Nat → Nat := fun i => if i = a then sp k else if i = k then sp a else sp i
theorem Inj.sw {n : Nat} {sp : Nat → Nat} (h : Inj n sp) {k a : Nat} (hk : k < n) (ha : a < n) : Inj n (sw sp k a) := by
  refine ⟨fun i hi => ?_, fun i j hi hj e => ?_⟩
  · unfold Vy.sw
    split
    · exact h.lt k hk
    · split
      · exact h.lt a ha
      · exact h.lt i hi
  · unfold Vy.sw at e
    by_cases i1 : i = a
    · rw [if_pos i1] at e
      by_cases j1 : j = a
      · rw [i1, j1]
      · rw [if_neg j1] at e
        by_cases j2 : j = k
        · rw [if_pos j2] at e
          have z := h.inj k a hk ha e
          omega
        · rw [if_neg j2] at e
          have z := h.inj k j hk hj e
          omega
    · rw [if_neg i1] at e
      by_cases i2 : i = k
      · rw [if_pos i2] at e
        by_cases j1 : j = a
        · rw [if_pos j1] at e
          have z := h.inj a k ha hk e
          omega
        · rw [if_neg j1] at e
          by_cases j2 : j = k
          · rw [i2, j2]
          · rw [if_neg j2] at e
            have z := h.inj a j ha hj e
            omega
      · rw [if_neg i2] at e
        by_cases j1 : j = a
        · rw [if_pos j1] at e
          have z := h.inj i k hi hk e
          omega
        · rw [if_neg j1] at e
          by_cases j2 : j = k
          · rw [if_pos j2] at e
            have z := h.inj i a hi ha e
            omega
          · rw [if_neg j2] at e
            exact h.inj i j hi hj e
abbrev natL (n : Nat) (sp : Nat → Nat) : List V := lsI n fun i => (sp i : Int)
theorem ixN_of {n j : Nat} {z : Int} (e : z = (j : Int)) (h : j < n) : ixN n z = some j := by
  rw [e]
  exact ixN_nat h
theorem below {d : Int} {n : Nat} (h : 0 < n) : ∃ a : Nat, d % (n : Int) = (a : Int) ∧ a < n := by
  have h0 := Int.emod_nonneg d (show (n : Int) ≠ 0 by omega)
  have h1 := Int.emod_lt_of_pos d (show (0 : Int) < (n : Int) by omega)
  exact ⟨(d % (n : Int)).toNat, by omega, by omega⟩
def spSpots (K : PySem.W.Frag) : Sp := fun vs H Q _ => ∃ (a : Addr) (n : Nat), vs = [.ref a, .int (n : Int)] ∧ Scr K H a ∧ 4 ≤ n ∧ n ≤ 12 ∧ ∀ q H' sp, Same H H' → H q = none → Inj n sp → H' q = some (.lst (natL n sp)) → Q (.ref q) H'
section
variable {K : PySem.W.Frag} {P : Program} {w : World} {mg : Str → Option Value} {base : Heap}
theorem scSpots : FnScope ["script", "many", "spots", "k", "at", "here"] ["script", "many"] (defScope sSpots) := ⟨rfl, rfl, rfl, by decide +kernel, rfl, by decide +kernel, by decide +kernel⟩
theorem ok_spots {f : Addr} {fd : FuncData} (F : Fun K "_law_spots" "_law_spots" sSpots f fd) (B : BTxt mg) (dD : Df P w K mg base CX0 1 "_law_draw" ["script", "k"] (spDraw K)) : FnOk P w K mg base CX0 2 f fd ["script", "many"] (spSpots K) := by
  refine F.ok scSpots (fun vs H Q E h => ?_) (fun cdv A outer s H vs Q E hr h => ?_)
  · obtain ⟨a, n, rfl, _⟩ := h
    rfl
  · obtain ⟨a, n, rfl, hS, h4, h12, k⟩ := h
    refine ⟨_, pss_cons (ps_setLc (i := 2) (own := [("k", 3)]) (g := gName 3) (te := tVar 3) rfl scSpots.nd rfl rfl (sw_true rfl rfl rfl (by decide +kernel)) (pi_range1 (by rfl) B.range (pa_cons (pv 1) pa_nil)) (blkOk_by (N := ["script", "many", "spots", "k", "at", "here"]) (sc := defScope sSpots) (by decide +kernel))
        (fun _ _ _ _ _ => pg_name (i := 3) scSpots.nd rfl (Or.inl rfl)) (fun _ _ _ _ _ => pts_nil) (fun _ _ _ _ _ => pv 3))
      (pss_cons (ps_for PassesOwn.never rfl (pi_range1 (by rfl) B.range (pa_cons (pv 1) pa_nil)) (pg_name (i := 3) scSpots.nd rfl (Or.inl rfl))
        (pss_cons (ps_set (i := 4) scSpots.nd rfl (Or.inl rfl) (pe_op op_mod (pe_df dD hr (by decide) rfl pass0 (pa_cons (pv 0) (pa_cons (pe_op op_add pe_int (pv 3)) pa_nil))) (pv 1)))
        (pss_cons (ps_set (i := 5) scSpots.nd rfl (Or.inl rfl) (pe_ix ix_list (pv 2) (pv 3) (fun _ _ => rfl)))
        (pss_cons (ps_asg (pe_ix ix_list (pv 2) (pv 4) (fun _ _ => rfl)) (pg_sub (pv 2) (pv 3) set_list))
        (pss_one (ps_asg (pv 5) (pg_sub (pv 2) (pv 4) set_list)))))))
      (pss_one (ps_ret (pv 2)))), ?_⟩
    refine ⟨_, rfl, _, rfl, by omega, by omega, fun D hD => lc_range (lo := 0) (n := n) (fun i H' => Same H H' ∧ H' D = some (.lst (natL i fun j => j))) ⟨same_upd hD, upd_same⟩ ?_ ?_⟩
    · rintro i H' hi ⟨sm, hd⟩
      refine ⟨rfl, iteT (B := True) ⟨_, rfl, _, hd, by rw [lsI_len]; exact small1000 (by omega), fun b o e => ?_, ?_⟩⟩
      · rw [upd_ne (ne_of_none e hD)]
        exact sm _ _ e
      · rw [upd_same]
        have e0 : (0 : Int) + (i : Int) = (i : Int) := by omega
        show some (HO.lst (lsI i (fun j => (j : Int)) ++ [V.int (0 + (i : Int))])) = some (HO.lst (lsI (i + 1) fun j => (j : Int)))
        rw [lsI_snoc, e0]
    · rintro G ⟨sm, hd⟩
      refine ⟨_, rfl, _, rfl, by omega, by omega, for_range (lo := 0) (n := n) (fun i σ H' => ∃ (sp : Nat → Nat) (v3 v4 v5 : Option V), σ = [some (.ref a), some (.int (n : Int)), some (.ref D), v3, v4, v5] ∧ Same H H' ∧ H' D = some (.lst (natL n sp)) ∧ Inj n sp)
        ⟨fun j => j, none, none, none, rfl, sm, hd, ⟨fun _ h => h, fun _ _ _ _ e => e⟩⟩ ?_ ?_⟩
      · rintro i σ H' hi ⟨sp, v3, v4, v5, rfl, sm, hd, hI⟩
        have e0 : (0 : Int) + (i : Int) = (i : Int) := by omega
        obtain ⟨ns, hs1, hs2⟩ := hS.same sm
        refine ⟨_, rfl, _, rfl, _, _, rfl, rfl, a, ns, _, rfl, hs1, hs2, by omega, by omega, fun d H2 s2 hd0 => ⟨_, rfl, _, _, rfl, rfl, by omega, ?_⟩⟩
        obtain ⟨at_, eat, hat⟩ := below (d := d) (n := n) (by omega)
        show gName 4 (V.int (d % (n : Int))) _ _ _
        rw [eat]
        have hd2 := s2 _ _ hd
        refine ⟨_, rfl, _, rfl, D, _, _, _, rfl, rfl, SqL.of hd2, at_of (j := i) e0 (lsI_get _ hi), ?_⟩
        refine ⟨_, rfl, _, rfl, D, _, _, _, rfl, rfl, SqL.of hd2, atI_nat (lsI_get _ hat), _, rfl, _, rfl, D, _, _, _, rfl, rfl, hd2, ixN_of e0 (by rw [lsI_len]; exact hi), ?_⟩
        refine ⟨_, rfl, _, rfl, _, rfl, D, _, _, _, rfl, rfl, upd_same, ixN_nat (by rw [List.length_set, lsI_len]; exact hat), ?_⟩
        refine ⟨sw sp i at_, _, _, _, rfl, fun b o e => ?_, ?_, hI.sw hi hat⟩
        · rw [upd_ne (ne_of_none e hD), upd_ne (ne_of_none e hD)]
          exact s2 _ _ (sm _ _ e)
        · rw [upd_same, lsI_set, lsI_set]
          refine congrArg (fun x => some (HO.lst x)) (lsI_congr fun j _ => ?_)
          unfold sw
          by_cases j1 : j = at_
          · rw [if_pos j1, if_pos j1]
          · rw [if_neg j1, if_neg j1]
            by_cases j2 : j = i
            · rw [if_pos j2, if_pos j2]
            · rw [if_neg j2, if_neg j2]
      · rintro σ H' ⟨sp, v3, v4, v5, rfl, sm, hd, hI⟩
        exact ⟨_, rfl, k D H' sp sm hD hI hd⟩
end
end Vy

/-! VyLawC: the law's vats. -/
namespace Vy
open PyProof.Rows PySem PySem.Spec L2
theorem atI_of {α : Type} {xs : List α} {z : Int} {j : Nat} {v : α} (e : z = (j : Int)) (h : xs[j]? = some v) : atI xs z = some v := by
  rw [e]
  exact atI_nat h
/-- the values are the vats' tuples -/
structure VatL (H : Hp) (xs : List V) (n : Nat) (room fill : Nat → Int) : Prop where
  len : xs.length = n
  at_ : ∀ i, i < n → ∃ (a : Addr) (nm : Str), xs[i]? = some (.ref a) ∧ H a = some (.tup [.str nm, .int (room i), .int (fill i)])
theorem VatL.keep {H H' : Hp} {xs : List V} {n : Nat} {r f : Nat → Int} (h : VatL H xs n r f) (s : ∀ b ys, H b = some (.tup ys) → H' b = some (.tup ys)) : VatL H' xs n r f :=
  ⟨h.len, fun i hi => let ⟨a, nm, e1, e2⟩ := h.at_ i hi; ⟨a, nm, e1, s _ _ e2⟩⟩
theorem VatL.same {H H' : Hp} {xs : List V} {n : Nat} {r f : Nat → Int} (h : VatL H xs n r f) (s : Same H H') : VatL H' xs n r f := h.keep fun b _ e => s b _ e
theorem VatL.snoc {H : Hp} {xs : List V} {n : Nat} {r f : Nat → Int} {a : Addr} {nm : Str} {x y : Int} (h : VatL H xs n r f) (ha : H a = some (.tup [.str nm, .int x, .int y])) :
    VatL H (xs ++ [.ref a]) (n + 1) (fun i => if i = n then x else r i) (fun i => if i = n then y else f i) := by
  refine ⟨by rw [List.length_append, h.len]; rfl, fun i hi => ?_⟩
  by_cases e : i = n
  · subst e
    refine ⟨a, nm, by rw [List.getElem?_append_right (by rw [h.len]; exact Nat.le_refl _), h.len, Nat.sub_self]; rfl, ?_⟩
    rw [if_pos rfl, if_pos rfl]
    exact ha
  · obtain ⟨b, m, e1, e2⟩ := h.at_ i (by omega)
    refine ⟨b, m, by rw [List.getElem?_append_left (by rw [h.len]; omega)]; exact e1, ?_⟩
    rw [if_neg e, if_neg e]
    exact e2
theorem VatL.set {H : Hp} {xs : List V} {n : Nat} {r f : Nat → Int} {a : Addr} {nm : Str} {x y : Int} (h : VatL H xs n r f) (j : Nat) (ha : H a = some (.tup [.str nm, .int x, .int y])) :
    VatL H (xs.set j (.ref a)) n (fun i => if i = j then x else r i) (fun i => if i = j then y else f i) := by
  refine ⟨by rw [List.length_set, h.len], fun i hi => ?_⟩
  by_cases e : i = j
  · subst e
    refine ⟨a, nm, List.getElem?_set_self (by rw [h.len]; exact hi), ?_⟩
    rw [if_pos rfl, if_pos rfl]
    exact ha
  · obtain ⟨b, m, e1, e2⟩ := h.at_ i hi
    refine ⟨b, m, by rw [List.getElem?_set_ne (Ne.symm e)]; exact e1, ?_⟩
    rw [if_neg e, if_neg e]
    exact e2
/-- a new tuple stored at a place of the list at D -/
theorem vat_store {H H' : Hp} {D t : Addr} {xs : List V} {n : Nat} {r f : Nat → Int} {nm : Str} {x y : Int} (hD : H D = none) (s : Same H H') (hd : H' D = some (.lst xs)) (hv : VatL H' xs n r f) (ht : H' t = none) (j : Nat) :
    Same H (upd (upd H' t (.tup [.str nm, .int x, .int y])) D (.lst (xs.set j (.ref t)))) ∧ upd (upd H' t (.tup [.str nm, .int x, .int y])) D (.lst (xs.set j (.ref t))) D = some (.lst (xs.set j (.ref t))) ∧
      VatL (upd (upd H' t (.tup [.str nm, .int x, .int y])) D (.lst (xs.set j (.ref t)))) (xs.set j (.ref t)) n (fun i => if i = j then x else r i) (fun i => if i = j then y else f i) := by
  have st := same_upd (o := .tup [.str nm, .int x, .int y]) ht
  refine ⟨fun b o e => ?_, upd_same, ((hv.same st).set j upd_same).keep fun b ys e => ?_⟩
  · rw [upd_ne (ne_of_none e hD)]
    exact st _ _ (s _ _ e)
  · rw [upd_ne (ne_of e (st _ _ hd) (by intro z; cases z))]
    exact e
structure VatSpec (n : Nat) (sp : Nat → Nat) (room fill : Nat → Int) : Prop where
  r0 : room (sp 0) = 700000000000
  f0 : fill (sp 0) = 700000000000
  r1 : room (sp 1) = 1000000000000
  f1 : fill (sp 1) = 0
  mid : ∀ j, j < 2 → 0 ≤ fill (sp (2 + j)) ∧ fill (sp (2 + j)) ≤ room (sp (2 + j)) ∧ room (sp (2 + j)) ≤ 200000000000
  rest : ∀ i, i < n → i ≠ sp 0 → i ≠ sp 1 → i ≠ sp 2 → i ≠ sp 3 → 0 ≤ room i ∧ fill i = 0
abbrev abc : Str := "abcdefghijkl"
theorem abc_len : abc.cps.toList.length = 12 := by decide +kernel
theorem abc_len2 : abc.length = 12 := by decide +kernel
theorem abc_at {i : Nat} (h : i < 12) : ∃ c, abc.cps.toList[i]? = some c := ⟨abc.cps.toList[i]'(by rw [abc_len]; exact h), List.getElem?_eq_getElem _⟩
theorem abc_line : abc.length ≤ sizeLine := by
  rw [abc_len2]
  decide
def spVats (K : PySem.W.Frag) : Sp := fun vs H Q _ => ∃ (a q0 : Addr) (n : Nat) (sp : Nat → Nat), vs = [.ref a, .int (n : Int), .ref q0] ∧ Scr K H a ∧ 4 ≤ n ∧ n ≤ 12 ∧ Inj n sp ∧ H q0 = some (.lst (natL n sp)) ∧
  ∀ q H' room fill, Same H H' → H q = none → VatsAt H' q n room fill → VatSpec n sp room fill → Q (.ref q) H'
theorem ten11 : (10 : Int) ^ (11 : Int).toNat = 100000000000 := by decide
theorem ten12 : (10 : Int) ^ (12 : Int).toNat = 1000000000000 := by decide
section
variable {K : PySem.W.Frag} {P : Program} {w : World} {mg : Str → Option Value} {base : Heap}
theorem scVats : FnScope ["script", "many", "spots", "letters", "vats", "k", "room"] ["script", "many", "spots"] (defScope sVats) := ⟨rfl, rfl, rfl, by decide +kernel, rfl, by decide +kernel, by decide +kernel⟩
theorem ok_vats {f : Addr} {fd : FuncData} (F : Fun K "_law_vats" "_law_vats" sVats f fd) (B : BTxt mg) (dD : Df P w K mg base CX0 1 "_law_draw" ["script", "k"] (spDraw K)) (dP : Df P w K mg base CX0 1 "_law_part" ["number", "most"] spPart) :
    FnOk P w K mg base CX0 2 f fd ["script", "many", "spots"] (spVats K) := by
  refine F.ok scVats (fun vs H Q E h => ?_) (fun cdv A outer s H vs Q E hr h => ?_)
  · obtain ⟨a, q0, n, sp, rfl, _⟩ := h
    rfl
  · obtain ⟨a, q0, n, sp, rfl, hS, h4, h12, hI, hq, k⟩ := h
    refine ⟨_, pss_cons (ps_set (i := 3) scVats.nd rfl (Or.inr rfl) pe_str)
      (pss_cons (ps_setLc (i := 4) (own := [("k", 5)]) (g := gName 5) rfl scVats.nd rfl rfl (sw_true rfl rfl rfl (by decide +kernel)) (pi_range1 (by rfl) B.range (pa_cons (pv 1) pa_nil)) (blkOk_by (N := ["script", "many", "spots", "letters", "vats", "k", "room"]) (sc := defScope sVats) (by decide +kernel))
        (fun _ _ _ _ _ => pg_name (i := 5) scVats.nd rfl (Or.inl rfl)) (fun _ _ _ _ _ => pts_nil) (fun _ _ _ _ _ => pe_tup (pa_cons (pe_ix ix_str (pv 3) (pv 5) (fun _ _ => rfl)) (pa_cons (pe_op op_mod (pe_df dD hr (by decide) rfl pass0 (pa_cons (pv 0) (pa_cons (pe_op op_add pe_int (pv 5)) pa_nil))) pe_int) (pa_cons pe_int pa_nil)))))
      (pss_cons (ps_asg (pe_tup (pa_cons (pe_ix ix_str (pv 3) (pe_ix ix_list (pv 2) pe_int (fun _ _ => rfl)) (fun _ _ => rfl)) (pa_cons (pe_op op_mul pe_int (pe_op op_pow pe_int pe_int)) (pa_cons (pe_op op_mul pe_int (pe_op op_pow pe_int pe_int)) pa_nil)))) (pg_sub (pv 4) (pe_ix ix_list (pv 2) pe_int (fun _ _ => rfl)) set_list))
      (pss_cons (ps_asg (pe_tup (pa_cons (pe_ix ix_str (pv 3) (pe_ix ix_list (pv 2) pe_int (fun _ _ => rfl)) (fun _ _ => rfl)) (pa_cons (pe_op op_pow pe_int pe_int) (pa_cons pe_int pa_nil)))) (pg_sub (pv 4) (pe_ix ix_list (pv 2) pe_int (fun _ _ => rfl)) set_list))
      (pss_cons (ps_for PassesOwn.never rfl (pi_range2 (by rfl) B.range (pa_cons pe_int (pa_cons pe_int pa_nil))) (pg_name (i := 5) scVats.nd rfl (Or.inl rfl))
        (pss_cons (ps_set (i := 6) scVats.nd rfl (Or.inl rfl) (pe_df dP hr (by decide) rfl pass0 (pa_cons (pe_df dD hr (by decide) rfl pass0 (pa_cons (pv 0) (pa_cons (pe_op op_add pe_int (pv 5)) pa_nil))) (pa_cons (pe_op op_mul pe_int (pe_op op_pow pe_int pe_int)) pa_nil))))
        (pss_one (ps_asg (pe_tup (pa_cons (pe_ix ix_str (pv 3) (pe_ix ix_list (pv 2) (pv 5) (fun _ _ => rfl)) (fun _ _ => rfl)) (pa_cons (pv 6) (pa_cons (pe_df dP hr (by decide) rfl pass0 (pa_cons (pe_df dD hr (by decide) rfl pass0 (pa_cons (pv 0) (pa_cons (pe_op op_add pe_int (pv 5)) pa_nil))) (pa_cons (pv 6) pa_nil))) pa_nil))))
          (pg_sub (pv 4) (pe_ix ix_list (pv 2) (pv 5) (fun _ _ => rfl)) set_list)))))
      (pss_one (ps_ret (pv 4))))))), ?_⟩
    have l0 := hI.lt 0 (by omega)
    have l1 := hI.lt 1 (by omega)
    have l2 := hI.lt 2 (by omega)
    have l3 := hI.lt 3 (by omega)
    have n01 : sp 0 ≠ sp 1 := fun z => absurd (hI.inj 0 1 (by omega) (by omega) z) (by decide)
    have n02 : sp 0 ≠ sp 2 := fun z => absurd (hI.inj 0 2 (by omega) (by omega) z) (by decide)
    have n03 : sp 0 ≠ sp 3 := fun z => absurd (hI.inj 0 3 (by omega) (by omega) z) (by decide)
    have n12 : sp 1 ≠ sp 2 := fun z => absurd (hI.inj 1 2 (by omega) (by omega) z) (by decide)
    have n13 : sp 1 ≠ sp 3 := fun z => absurd (hI.inj 1 3 (by omega) (by omega) z) (by decide)
    have n23 : sp 2 ≠ sp 3 := fun z => absurd (hI.inj 2 3 (by omega) (by omega) z) (by decide)
    -- all vats, small rooms, empty
    refine ⟨_, rfl, _, rfl, by omega, by omega, fun D hD => lc_range (lo := 0) (n := n) (fun i H' => Same H H' ∧ ∃ xs room fill, H' D = some (.lst xs) ∧ VatL H' xs i room fill ∧ ∀ j, j < i → 0 ≤ room j ∧ fill j = 0)
      ⟨same_upd hD, [], fun _ => 0, fun _ => 0, upd_same, ⟨rfl, fun i hi => absurd hi (by omega)⟩, fun j hj => absurd hj (by omega)⟩ ?_ ?_⟩
    · rintro i H' hi ⟨sm, xs, room, fill, hd, hv, hb⟩
      have e0 : (0 : Int) + (i : Int) = (i : Int) := by omega
      obtain ⟨c, hc⟩ := abc_at (i := i) (by omega)
      obtain ⟨ns, hs1, hs2⟩ := hS.same sm
      refine ⟨rfl, iteT (B := True) ⟨_, rfl, _, rfl, abc, _, c, rfl, rfl, abc_line, atI_of (j := i) e0 hc, _, rfl, _, rfl, _, _, rfl, rfl, a, ns, _, rfl, hs1, hs2, by omega, by omega, fun d H2 s2 hd0 => ⟨_, _, rfl, rfl, (by show (0 : Int) < 100; decide), (by show 3 ≤ sizeLine; decide), fun t ft => ?_⟩⟩⟩
      have st := same_upd (o := .tup [.str ⟨#[c]⟩, .int (d % 100), .int 0]) ft
      have hd3 := st _ _ (s2 _ _ hd)
      refine ⟨xs, hd3, by rw [hv.len]; exact small1000 (by omega), fun b o e => ?_, xs ++ [.ref t], _, _, upd_same, (((hv.same s2).same st).snoc upd_same).keep fun b ys e => ?_, fun j hj => ?_⟩
      · rw [upd_ne (ne_of_none e hD)]
        exact st _ _ (s2 _ _ (sm _ _ e))
      · rw [upd_ne (ne_of e hd3 (by intro z; cases z))]
        exact e
      · by_cases e : j = i
        · rw [if_pos e, if_pos e]
          exact ⟨Int.emod_nonneg _ (by decide), rfl⟩
        · rw [if_neg e, if_neg e]
          exact hb j (by omega)
    rintro G ⟨sm, xs, room, fill, hd, hv, hb⟩
    -- the first one
    obtain ⟨c0, hc0⟩ := abc_at (i := sp 0) (by omega)
    refine ⟨_, rfl, _, rfl, q0, _, _, _, rfl, rfl, SqL.of (sm _ _ hq), at_of (j := 0) rfl (lsI_get _ (by omega)), abc, _, c0, rfl, rfl, abc_line, atI_nat hc0,
      _, _, rfl, rfl, ⟨by decide, by decide, by decide⟩, _, _, rfl, rfl, .inl ⟨by decide, by decide⟩, _, _, rfl, rfl, ⟨by decide, by decide, by decide⟩, _, _, rfl, rfl, .inl ⟨by decide, by decide⟩, (by show 3 ≤ sizeLine; decide), fun t ft => ?_⟩
    obtain ⟨m1, d1, v1⟩ := vat_store (nm := ⟨#[c0]⟩) (x := 7 * 10 ^ (11 : Int).toNat) (y := 7 * 10 ^ (11 : Int).toNat) hD sm hd hv ft (sp 0)
    refine ⟨_, rfl, _, rfl, q0, _, _, _, rfl, rfl, SqL.of (same_upd ft _ _ (sm _ _ hq)), at_of (j := 0) rfl (lsI_get _ (by omega)), D, _, _, _, rfl, rfl, same_upd ft _ _ hd, ixN_nat (by rw [hv.len]; exact l0), ?_⟩
    generalize upd (upd G t (.tup [.str ⟨#[c0]⟩, .int (7 * 10 ^ (11 : Int).toNat), .int (7 * 10 ^ (11 : Int).toNat)])) D (.lst (xs.set (sp 0) (.ref t))) = G1 at m1 d1 v1 ⊢
    -- the last one
    obtain ⟨c1, hc1⟩ := abc_at (i := sp 1) (by omega)
    refine ⟨_, rfl, _, rfl, q0, _, _, _, rfl, rfl, SqL.of (m1 _ _ hq), at_of (j := 1) rfl (lsI_get _ (by omega)), abc, _, c1, rfl, rfl, abc_line, atI_nat hc1,
      _, _, rfl, rfl, ⟨by decide, by decide, by decide⟩, (by show 3 ≤ sizeLine; decide), fun t2 ft2 => ?_⟩
    obtain ⟨m2, d2, v2⟩ := vat_store (nm := ⟨#[c1]⟩) (x := 10 ^ (12 : Int).toNat) (y := 0) hD m1 d1 v1 ft2 (sp 1)
    refine ⟨_, rfl, _, rfl, q0, _, _, _, rfl, rfl, SqL.of (same_upd ft2 _ _ (m1 _ _ hq)), at_of (j := 1) rfl (lsI_get _ (by omega)), D, _, _, _, rfl, rfl, same_upd ft2 _ _ d1, ixN_nat (by rw [v1.len]; exact l1), ?_⟩
    generalize upd (upd G1 t2 (.tup [.str ⟨#[c1]⟩, .int (10 ^ (12 : Int).toNat), .int 0])) D (.lst ((xs.set (sp 0) (.ref t)).set (sp 1) (.ref t2))) = G2 at m2 d2 v2 ⊢
    -- the two in the middle
    refine ⟨_, _, rfl, ⟨by decide, by decide, by decide, by decide⟩, for_range (lo := 2) (n := 2) (fun i σ H' => ∃ (v5 v6 : Option V) (ys : List V) (rm fl : Nat → Int), σ = [some (.ref a), some (.int (n : Int)), some (.ref q0), some (.str abc), some (.ref D), v5, v6] ∧ Same H H' ∧ H' D = some (.lst ys) ∧ VatL H' ys n rm fl ∧
        rm (sp 0) = 700000000000 ∧ fl (sp 0) = 700000000000 ∧ rm (sp 1) = 1000000000000 ∧ fl (sp 1) = 0 ∧ (∀ j, j < i → 0 ≤ fl (sp (2 + j)) ∧ fl (sp (2 + j)) ≤ rm (sp (2 + j)) ∧ rm (sp (2 + j)) ≤ 200000000000) ∧
        ∀ j, j < n → j ≠ sp 0 → j ≠ sp 1 → j ≠ sp 2 → j ≠ sp 3 → 0 ≤ rm j ∧ fl j = 0) ?_ ?_ ?_⟩
    · refine ⟨none, none, _, _, _, rfl, m2, d2, v2, ?_, ?_, ?_, ?_, fun j hj => absurd hj (by omega), fun j hj z0 z1 _ _ => ?_⟩
      · show (if sp 0 = sp 1 then _ else if sp 0 = sp 0 then _ else _) = _
        rw [if_neg n01, if_pos rfl]
        decide
      · show (if sp 0 = sp 1 then _ else if sp 0 = sp 0 then _ else _) = _
        rw [if_neg n01, if_pos rfl]
        decide
      · show (if sp 1 = sp 1 then _ else _) = _
        rw [if_pos rfl]
        decide
      · show (if sp 1 = sp 1 then _ else _) = _
        rw [if_pos rfl]
      · show 0 ≤ (if j = sp 1 then _ else if j = sp 0 then _ else room j) ∧ (if j = sp 1 then _ else if j = sp 0 then _ else fill j) = 0
        rw [if_neg z1, if_neg z0, if_neg z1, if_neg z0]
        exact hb j hj
    · rintro i σ H' hi ⟨v5, v6, ys, rm, fl, rfl, sm', hd', hv', e1, e2, e3, e4, hm, hrest⟩
      have ei : (2 : Int) + (i : Int) = ((2 + i : Nat) : Int) := by omega
      have li := hI.lt (2 + i) (by omega)
      have n0i : sp 0 ≠ sp (2 + i) := fun z => absurd (hI.inj 0 (2 + i) (by omega) (by omega) z) (by omega)
      have n1i : sp 1 ≠ sp (2 + i) := fun z => absurd (hI.inj 1 (2 + i) (by omega) (by omega) z) (by omega)
      obtain ⟨c, hc⟩ := abc_at (i := sp (2 + i)) (by omega)
      obtain ⟨ns, hs1, hs2⟩ := hS.same sm'
      refine ⟨_, rfl, _, rfl, _, _, rfl, rfl, a, ns, _, rfl, hs1, hs2, by omega, by omega, fun d H2 s2 hd0 => ⟨_, _, rfl, rfl, ⟨by decide, by decide, by decide⟩, _, _, rfl, rfl, .inl ⟨by decide, by decide⟩, d, _, rfl, hd0, by decide, fun r hr0 hr1 => ?_⟩⟩
      have hr1' : r ≤ 200000000000 := Int.le_trans hr1 (by decide)
      refine ⟨_, rfl, _, rfl, _, rfl, q0, _, _, _, rfl, rfl, SqL.of (s2 _ _ (sm' _ _ hq)), at_of (j := 2 + i) ei (lsI_get _ (by omega)), abc, _, c, rfl, rfl, abc_line, atI_nat hc, _, rfl, _, rfl, _, rfl, _, _, rfl, rfl, a, ns, _, rfl, s2.seq hs1, hs2, by omega, by omega,
        fun d' H3 s3 hd0' => ⟨_, rfl, d', r, rfl, hd0', hr0, fun r' hr0' hr1'' => ⟨(by show 3 ≤ sizeLine; decide), fun t ft => ?_⟩⟩⟩
      obtain ⟨m4, d4, v4⟩ := vat_store (nm := ⟨#[c]⟩) (x := r) (y := r') hD (sm'.trans (s2.trans s3)) (s3 _ _ (s2 _ _ hd')) ((hv'.same s2).same s3) ft (sp (2 + i))
      refine ⟨_, rfl, _, rfl, _, rfl, q0, _, _, _, rfl, rfl, SqL.of (same_upd ft _ _ (s3 _ _ (s2 _ _ (sm' _ _ hq)))), at_of (j := 2 + i) ei (lsI_get _ (by omega)), D, _, _, _, rfl, rfl, same_upd ft _ _ (s3 _ _ (s2 _ _ hd')), ixN_nat (by rw [hv'.len]; exact li), ?_⟩
      refine ⟨_, _, _, _, _, rfl, m4, d4, v4, ?_, ?_, ?_, ?_, fun j hj => ?_, fun j hj z0 z1 z2 z3 => ?_⟩
      · rw [if_neg n0i]; exact e1
      · rw [if_neg n0i]; exact e2
      · rw [if_neg n1i]; exact e3
      · rw [if_neg n1i]; exact e4
      · by_cases e : j = i
        · subst e
          rw [if_pos rfl, if_pos rfl]
          exact ⟨hr0', hr1'', hr1'⟩
        · have nij : sp (2 + j) ≠ sp (2 + i) := fun z => e (by have z := hI.inj (2 + j) (2 + i) (by omega) (by omega) z; omega)
          rw [if_neg nij, if_neg nij]
          exact hm j (by omega)
      · have z4 : j ≠ sp (2 + i) := by
          have hi2 : i = 0 ∨ i = 1 := by omega
          rcases hi2 with rfl | rfl
          · exact z2
          · exact z3
        rw [if_neg z4, if_neg z4]
        exact hrest j hj z0 z1 z2 z3
    · rintro σ H' ⟨v5, v6, ys, rm, fl, rfl, sm', hd', hv', e1, e2, e3, e4, hm, hrest⟩
      exact ⟨_, rfl, k D H' rm fl sm' hD ⟨ys, hd', hv'.len, hv'.at_⟩ ⟨e1, e2, e3, e4, hm, hrest⟩⟩
end
end Vy

/-! VyLawD: the law's pipes; the full vats and the held ones as they are due. -/
namespace Vy
open PyProof.Rows PySem PySem.Spec L2
/-- the four pipes ahead of the turn -/
def P4 (sp ln : Nat → Nat) (pr : Int) (j : Nat) : Pp := if j = 0 then ⟨sp 0, sp 2, ln 0, pr⟩ else if j = 1 then ⟨sp 0, sp 3, ln 1, pr⟩ else if j = 2 then ⟨sp 2, sp 1, ln 2, pr⟩ else ⟨sp 3, sp 1, ln 3, 0⟩
def spPipes (K : PySem.W.Frag) : Sp := fun vs H Q _ => ∃ (a q0 l0 : Addr) (n : Nat) (sp ln : Nat → Nat), vs = [.ref a, .ref q0, .ref l0] ∧ Scr K H a ∧ 4 ≤ n ∧ H q0 = some (.lst (natL n sp)) ∧ H l0 = some (.lst (natL 4 ln)) ∧
  ∀ q H' tn pr, Same H H' → H q = none → tn < 4 → PipesAt H' q 4 (fun i => P4 sp ln pr ((i + tn) % 4)) → Q (.ref q) H'
section
variable {K : PySem.W.Frag} {P : Program} {w : World} {mg : Str → Option Value} {base : Heap}
theorem scPipes : FnScope ["script", "spots", "lengths", "price", "wide", "pipes", "turn"] ["script", "spots", "lengths"] (defScope sPipes) := ⟨rfl, rfl, rfl, by decide +kernel, rfl, by decide +kernel, by decide +kernel⟩
theorem turned (x0 x1 x2 x3 : V) (tn : Nat) (h : tn < 4) (i : Nat) (hi : i < 4) : (cutV [x0, x1, x2, x3] (some (tn : Int)) none ++ cutV [x0, x1, x2, x3] none (some (tn : Int)))[i]? = [x0, x1, x2, x3][(i + tn) % 4]? := by
  have ht : tn = 0 ∨ tn = 1 ∨ tn = 2 ∨ tn = 3 := by omega
  have hj : i = 0 ∨ i = 1 ∨ i = 2 ∨ i = 3 := by omega
  rcases ht with rfl | rfl | rfl | rfl <;> rcases hj with rfl | rfl | rfl | rfl <;> rfl
theorem turned_len (x0 x1 x2 x3 : V) (tn : Nat) (h : tn < 4) : (cutV [x0, x1, x2, x3] (some (tn : Int)) none ++ cutV [x0, x1, x2, x3] none (some (tn : Int))).length = 4 := by
  have ht : tn = 0 ∨ tn = 1 ∨ tn = 2 ∨ tn = 3 := by omega
  rcases ht with rfl | rfl | rfl | rfl <;> rfl
theorem ok_pipes {f : Addr} {fd : FuncData} (F : Fun K "_law_pipes" "_law_pipes" sPipes f fd) (dD : Df P w K mg base CX0 1 "_law_draw" ["script", "k"] (spDraw K)) : FnOk P w K mg base CX0 2 f fd ["script", "spots", "lengths"] (spPipes K) := by
  refine F.ok scPipes (fun vs H Q E h => ?_) (fun cdv A outer s H vs Q E hr h => ?_)
  · obtain ⟨a, q0, l0, n, sp, ln, rfl, _⟩ := h
    rfl
  · obtain ⟨a, q0, l0, n, sp, ln, rfl, hS, h4, hq, hl, k⟩ := h
    refine ⟨_, pss_cons (ps_set (i := 3) scPipes.nd rfl (Or.inl rfl) (pe_op op_mod (pe_df dD hr (by decide) rfl pass0 (pa_cons (pv 0) (pa_cons pe_int pa_nil))) pe_int))
      (pss_cons (ps_set (i := 4) scPipes.nd rfl (Or.inl rfl) (pe_tup (pa_cons pe_str (pa_cons (pe_op op_pow pe_int pe_int) pa_nil))))
      (pss_cons (ps_set (i := 5) scPipes.nd rfl (Or.inl rfl) (pe_lst
        (pa_cons (pe_tup (pa_cons (pe_ix ix_list (pv 1) pe_int (fun _ _ => rfl)) (pa_cons (pe_ix ix_list (pv 1) pe_int (fun _ _ => rfl)) (pa_cons (pe_ix ix_list (pv 2) pe_int (fun _ _ => rfl)) (pa_cons (pv 3) (pa_cons (pv 4) pa_nil))))))
        (pa_cons (pe_tup (pa_cons (pe_ix ix_list (pv 1) pe_int (fun _ _ => rfl)) (pa_cons (pe_ix ix_list (pv 1) pe_int (fun _ _ => rfl)) (pa_cons (pe_ix ix_list (pv 2) pe_int (fun _ _ => rfl)) (pa_cons (pv 3) (pa_cons (pv 4) pa_nil)))))) pa_nil))))
      (pss_cons (ps_set (i := 5) scPipes.nd rfl (Or.inl rfl) (pe_op op_cat (pv 5) (pe_lst
        (pa_cons (pe_tup (pa_cons (pe_ix ix_list (pv 1) pe_int (fun _ _ => rfl)) (pa_cons (pe_ix ix_list (pv 1) pe_int (fun _ _ => rfl)) (pa_cons (pe_ix ix_list (pv 2) pe_int (fun _ _ => rfl)) (pa_cons (pv 3) (pa_cons (pv 4) pa_nil))))))
        (pa_cons (pe_tup (pa_cons (pe_ix ix_list (pv 1) pe_int (fun _ _ => rfl)) (pa_cons (pe_ix ix_list (pv 1) pe_int (fun _ _ => rfl)) (pa_cons (pe_ix ix_list (pv 2) pe_int (fun _ _ => rfl)) (pa_cons pe_int (pa_cons (pv 4) pa_nil)))))) pa_nil)))))
      (pss_cons (ps_set (i := 6) scPipes.nd rfl (Or.inl rfl) (pe_op op_mod (pe_df dD hr (by decide) rfl pass0 (pa_cons (pv 0) (pa_cons pe_int pa_nil))) pe_int))
      (pss_one (ps_ret (pe_op op_cat (pe_slice sl_list (pv 5) (po_some (pv 6)) po_none) (pe_slice sl_list (pv 5) po_none (po_some (pv 6)))))))))), ?_⟩
    obtain ⟨ns, hs1, hs2⟩ := hS
    refine ⟨_, rfl, a, ns, _, rfl, hs1, hs2, by decide, by decide, fun d H1 s1 _ => ⟨_, _, rfl, rfl, (by show (0 : Int) < 1000001; decide), ?_⟩⟩
    -- wide
    refine ⟨_, _, rfl, rfl, ⟨by decide, by decide, by decide⟩, (by show 2 ≤ sizeLine; decide), fun g fg => ?_⟩
    have ew : (10 : Int) ^ (12 : Int).toNat = WID := by decide
    have hg0 : upd H1 g (.tup [.str "steady", .int (10 ^ (12 : Int).toNat)]) g = some (.tup [.str "steady", .int WID]) := by rw [upd_same, ew]
    have s2 := s1.trans (same_upd (o := .tup [.str "steady", .int (10 ^ (12 : Int).toNat)]) fg)
    generalize upd H1 g (.tup [.str "steady", .int (10 ^ (12 : Int).toNat)]) = H2 at s2 hg0 ⊢
    -- the first two
    refine ⟨_, rfl, q0, _, _, _, rfl, rfl, SqL.of (s2 _ _ hq), at_of (j := 0) rfl (lsI_get _ (by omega)), _, rfl, q0, _, _, _, rfl, rfl, SqL.of (s2 _ _ hq), at_of (j := 2) rfl (lsI_get _ (by omega)), _, rfl, l0, _, _, _, rfl, rfl, SqL.of (s2 _ _ hl), at_of (j := 0) rfl (lsI_get _ (by decide)), _, rfl, _, rfl, (by show 5 ≤ sizeLine; decide), fun t0 f0 => ?_⟩
    have s3 := s2.trans (same_upd (o := .tup [.int (sp 0), .int (sp 2), .int (ln 0), .int (d % 1000001), .ref g]) f0)
    have k3 := same_upd (o := .tup [.int (sp 0), .int (sp 2), .int (ln 0), .int (d % 1000001), .ref g]) f0
    have a3 : upd H2 t0 (.tup [.int (sp 0), .int (sp 2), .int (ln 0), .int (d % 1000001), .ref g]) t0 = some (.tup [.int (sp 0), .int (sp 2), .int (ln 0), .int (d % 1000001), .ref g]) := upd_same
    have g3 := k3 _ _ hg0
    generalize upd H2 t0 (.tup [.int (sp 0), .int (sp 2), .int (ln 0), .int (d % 1000001), .ref g]) = H3 at s3 a3 g3 ⊢
    refine ⟨_, rfl, q0, _, _, _, rfl, rfl, SqL.of (s3 _ _ hq), at_of (j := 0) rfl (lsI_get _ (by omega)), _, rfl, q0, _, _, _, rfl, rfl, SqL.of (s3 _ _ hq), at_of (j := 3) rfl (lsI_get _ (by omega)), _, rfl, l0, _, _, _, rfl, rfl, SqL.of (s3 _ _ hl), at_of (j := 1) rfl (lsI_get _ (by decide)), _, rfl, _, rfl, (by show 5 ≤ sizeLine; decide), fun t1 f1 => ?_⟩
    have s4 := s3.trans (same_upd (o := .tup [.int (sp 0), .int (sp 3), .int (ln 1), .int (d % 1000001), .ref g]) f1)
    have k4 := same_upd (o := .tup [.int (sp 0), .int (sp 3), .int (ln 1), .int (d % 1000001), .ref g]) f1
    have b4 : upd H3 t1 (.tup [.int (sp 0), .int (sp 3), .int (ln 1), .int (d % 1000001), .ref g]) t1 = some (.tup [.int (sp 0), .int (sp 3), .int (ln 1), .int (d % 1000001), .ref g]) := upd_same
    have a4 := k4 _ _ a3
    have g4 := k4 _ _ g3
    generalize upd H3 t1 (.tup [.int (sp 0), .int (sp 3), .int (ln 1), .int (d % 1000001), .ref g]) = H4 at s4 a4 b4 g4 ⊢
    refine ⟨(by show 2 ≤ sizeLine; decide), fun L1 fL1 => ?_⟩
    have k5 := same_upd (o := .lst [.ref t0, .ref t1]) fL1
    have s5 := s4.trans k5
    have L5 : upd H4 L1 (.lst [.ref t0, .ref t1]) L1 = some (.lst [.ref t0, .ref t1]) := upd_same
    have a5 := k5 _ _ a4
    have b5 := k5 _ _ b4
    have g5 := k5 _ _ g4
    generalize upd H4 L1 (.lst [.ref t0, .ref t1]) = H5 at s5 L5 a5 b5 g5 ⊢
    -- the other two
    refine ⟨_, rfl, _, rfl, q0, _, _, _, rfl, rfl, SqL.of (s5 _ _ hq), at_of (j := 2) rfl (lsI_get _ (by omega)), _, rfl, q0, _, _, _, rfl, rfl, SqL.of (s5 _ _ hq), at_of (j := 1) rfl (lsI_get _ (by omega)), _, rfl, l0, _, _, _, rfl, rfl, SqL.of (s5 _ _ hl), at_of (j := 2) rfl (lsI_get _ (by decide)), _, rfl, _, rfl, (by show 5 ≤ sizeLine; decide), fun t2 f2 => ?_⟩
    have k6 := same_upd (o := .tup [.int (sp 2), .int (sp 1), .int (ln 2), .int (d % 1000001), .ref g]) f2
    have s6 := s5.trans k6
    have c6 : upd H5 t2 (.tup [.int (sp 2), .int (sp 1), .int (ln 2), .int (d % 1000001), .ref g]) t2 = some (.tup [.int (sp 2), .int (sp 1), .int (ln 2), .int (d % 1000001), .ref g]) := upd_same
    have L6 := k6 _ _ L5
    have a6 := k6 _ _ a5
    have b6 := k6 _ _ b5
    have g6 := k6 _ _ g5
    generalize upd H5 t2 (.tup [.int (sp 2), .int (sp 1), .int (ln 2), .int (d % 1000001), .ref g]) = H6 at s6 L6 a6 b6 c6 g6 ⊢
    refine ⟨_, rfl, q0, _, _, _, rfl, rfl, SqL.of (s6 _ _ hq), at_of (j := 3) rfl (lsI_get _ (by omega)), _, rfl, q0, _, _, _, rfl, rfl, SqL.of (s6 _ _ hq), at_of (j := 1) rfl (lsI_get _ (by omega)), _, rfl, l0, _, _, _, rfl, rfl, SqL.of (s6 _ _ hl), at_of (j := 3) rfl (lsI_get _ (by decide)), _, rfl, (by show 5 ≤ sizeLine; decide), fun t3 f3 => ?_⟩
    have k7 := same_upd (o := .tup [.int (sp 3), .int (sp 1), .int (ln 3), .int 0, .ref g]) f3
    have s7 := s6.trans k7
    have d7 : upd H6 t3 (.tup [.int (sp 3), .int (sp 1), .int (ln 3), .int 0, .ref g]) t3 = some (.tup [.int (sp 3), .int (sp 1), .int (ln 3), .int 0, .ref g]) := upd_same
    have L7 := k7 _ _ L6
    have a7 := k7 _ _ a6
    have b7 := k7 _ _ b6
    have c7 := k7 _ _ c6
    have g7 := k7 _ _ g6
    generalize upd H6 t3 (.tup [.int (sp 3), .int (sp 1), .int (ln 3), .int 0, .ref g]) = H7 at s7 L7 a7 b7 c7 d7 g7 ⊢
    refine ⟨(by show 2 ≤ sizeLine; decide), fun L2' fL2 => ?_⟩
    have k8 := same_upd (o := .lst [.ref t2, .ref t3]) fL2
    refine ⟨L1, L2', _, _, rfl, rfl, k8 _ _ L7, upd_same, (by show 4 ≤ sizeLine; decide), fun L fL => ?_⟩
    have k9 := k8.trans (same_upd (o := .lst ([V.ref t0, V.ref t1] ++ [V.ref t2, V.ref t3])) fL)
    have s9 := s7.trans k9
    have L9 : upd (upd H7 L2' (.lst [.ref t2, .ref t3])) L (.lst ([V.ref t0, V.ref t1] ++ [V.ref t2, V.ref t3])) L = some (.lst [.ref t0, .ref t1, .ref t2, .ref t3]) := upd_same
    have a9 := k9 _ _ a7
    have b9 := k9 _ _ b7
    have c9 := k9 _ _ c7
    have d9 := k9 _ _ d7
    have g9 := k9 _ _ g7
    generalize upd (upd H7 L2' (.lst [.ref t2, .ref t3])) L (.lst ([V.ref t0, V.ref t1] ++ [V.ref t2, V.ref t3])) = H9 at s9 L9 a9 b9 c9 d9 g9 ⊢
    -- turn
    refine ⟨_, rfl, a, ns, _, rfl, s9.seq hs1, hs2, by decide, by decide, fun d2 HA sA _ => ⟨_, _, rfl, rfl, (by show (0 : Int) < 4; decide), ?_⟩⟩
    obtain ⟨tn, etn, htn⟩ := below (d := d2) (n := 4) (by decide)
    show gName 6 (V.int (d2 % ((4 : Nat) : Int))) _ _ _
    rw [etn]
    refine ⟨_, rfl, _, rfl, _, rfl, L, _, rfl, SqL.of (sA _ _ L9), fun A1 fA1 => ?_⟩
    have kA := same_upd (o := .lst (cutV [.ref t0, .ref t1, .ref t2, .ref t3] (some (tn : Int)) none)) fA1
    refine ⟨_, rfl, _, rfl, _, rfl, L, _, rfl, SqL.of (kA _ _ (sA _ _ L9)), fun A2 fA2 => ?_⟩
    have kB := same_upd (o := .lst (cutV [.ref t0, .ref t1, .ref t2, .ref t3] none (some (tn : Int)))) fA2
    refine ⟨A1, A2, _, _, rfl, rfl, kB _ _ upd_same, upd_same, ?_, fun q fq => ?_⟩
    · rw [← List.length_append, turned_len _ _ _ _ _ htn]
      decide
    have kC := same_upd (o := .lst (cutV [.ref t0, .ref t1, .ref t2, .ref t3] (some (tn : Int)) none ++ cutV [.ref t0, .ref t1, .ref t2, .ref t3] none (some (tn : Int)))) fq
    have kD := sA.trans (kA.trans (kB.trans kC))
    refine k q _ tn (d % 1000001) (s9.trans kD) ((s9.trans (sA.trans (kA.trans kB))).free fq) htn ⟨_, upd_same, turned_len _ _ _ _ _ htn, fun i hi => ?_⟩
    rw [turned _ _ _ _ _ htn i hi]
    dsimp only
    have hm : (i + tn) % 4 = 0 ∨ (i + tn) % 4 = 1 ∨ (i + tn) % 4 = 2 ∨ (i + tn) % 4 = 3 := by omega
    rcases hm with e | e | e | e <;> rw [e]
    · exact ⟨t0, g, rfl, kD _ _ a9, kD _ _ g9⟩
    · exact ⟨t1, g, rfl, kD _ _ b9, kD _ _ g9⟩
    · exact ⟨t2, g, rfl, kD _ _ c9, kD _ _ g9⟩
    · exact ⟨t3, g, rfl, kD _ _ d9, kD _ _ g9⟩
end
end Vy

/-! VyLawE: what is full and held is as it is due; the refusals. -/
namespace Vy
open PyProof.Rows PySem PySem.Spec L2
abbrev sFullW : Stmt := top 28
abbrev sRef : Stmt := top 29
def spFullW (C : Addr) (Y : Yd) : Sp := fun vs H Q _ => ∃ (O : Addr → Prop) (p lv lh : Addr) (S : PS) (fl : Nat → Int), vs = [.ref p, .ref lv, .ref lh] ∧ PlayAt C Y H O p S ∧ YOk Y ∧ VatsAt H lv Y.n Y.room fl ∧ H lh = some (.lst (lsI Y.n S.held)) ∧ ∀ H', Same H H' → Q (.bl true) H'
/-- the exceptions' classes, TooFull's answers to isinstance -/
structure ETxt (K : PySem.W.Frag) (mg : Str → Option Value) (CY CF : Addr) (c1 c2 c3 c4 c5 c6 c7 c8 : Addr) : Prop where
  gY : mg "YardError" = some (.ref CY)
  ex : PySem.W.exmOne K (.ref CF) (.ref CY) = some true
  ec : ExcC K CF
  g1 : mg "NoPipe" = some (.ref c1)
  g2 : mg "NoAmount" = some (.ref c2)
  g3 : mg "TooWide" = some (.ref c3)
  g4 : mg "TooLittle" = some (.ref c4)
  g5 : mg "NoMoment" = some (.ref c5)
  g6 : mg "NoRow" = some (.ref c6)
  g7 : mg "NoName" = some (.ref c7)
  g8 : mg "NoMeasure" = some (.ref c8)
  gF : mg "TooFull" = some (.ref CF)
  gV : mg "ValueError" = none
  k1 : PySem.W.kitOne K (.ref CF) (.ref c1) = some false
  k2 : PySem.W.kitOne K (.ref CF) (.ref c2) = some false
  k3 : PySem.W.kitOne K (.ref CF) (.ref c3) = some false
  k4 : PySem.W.kitOne K (.ref CF) (.ref c4) = some false
  k5 : PySem.W.kitOne K (.ref CF) (.ref c5) = some false
  k6 : PySem.W.kitOne K (.ref CF) (.ref c6) = some false
  k7 : PySem.W.kitOne K (.ref CF) (.ref c7) = some false
  k8 : PySem.W.kitOne K (.ref CF) (.ref c8) = some false
  kF : PySem.W.kitOne K (.ref CF) (.ref CF) = some true
  kV : PySem.W.kitOne K (.ref CF) (.type "ValueError") = some true
/-- isinstance(e, c) in an except suite, the reading says that the error is TooFull's -/
def rIsF (K : PySem.W.Frag) (D a : Addr) (cls : Value) (d : Option Addr) : List V → Hp → VK → Prop := fun xs H Q => cls = .ref D ∧ d = none ∧ rIsE K D a xs H Q
theorem call_isF {X : Cx} {a D : Addr} {oe : Obj} {pn : List (Addr × Obj)} {cls : Value} {d : Option Addr} (C : ExcC X.K D) (hz : Zc cls d oe) (hf : ∃ vs, oe.data = .fields vs) : CallR (X.suite a ((a, oe) :: pn)) (.builtin "isinstance") (rIsF X.K D a cls d) := by
  intro pn s st G xs us Q I r h
  obtain ⟨rfl, rfl, h⟩ := h
  exact call_isE C hz hf pn s st G xs us Q I r h
theorem bl_rel {C : Addr} : ∀ u, RelV (V.ref C) u → u = Value.ref C := fun _ h => h
theorem ty_rel {n : String} : ∀ u, RelV (V.ty n) u → u = Value.type n := fun _ h => h
theorem dp_bls {K : PySem.W.Frag} {H : Hp} : ∀ bs : List Bool, DpAll K H (bs.map V.bl) (bs.map PyData.bool)
  | [] => .nil
  | b :: r => .cons (.bl b) (dp_bls r)
section
variable {K : PySem.W.Frag} {P : Program} {w : World} {mg : Str → Option Value} {base : Heap}
theorem scFullW : FnScope ["play", "vats", "held", "due", "k"] ["play", "vats", "held"] (defScope sFullW) := ⟨rfl, rfl, rfl, by decide +kernel, rfl, by decide +kernel, by decide +kernel⟩
theorem fullL_len (Y : Yd) (yo : YOk Y) (h : Nat → Int) : (fullL Y h).length ≤ 100 := Nat.le_trans (filter_le _ _) yo.n
theorem ok_fullW {f C : Addr} {fd : FuncData} {Y : Yd} (F : Fun K "_law_full" "_law_full" sFullW f fd) (B : BTxt mg) (dW : Df P w K mg base CX0 2 "_law_wholes" ["found", "due"] spWholes) (dF : Md P w K mg base CX0 1 C "full" ["self"] (spFull C Y)) (dH : Md P w K mg base CX0 1 C "holds" ["self"] (spHolds C Y)) :
    FnOk P w K mg base CX0 3 f fd ["play", "vats", "held"] (spFullW C Y) := by
  refine F.ok scFullW (fun vs H Q E h => ?_) (fun cdv A outer s H vs Q E hr h => ?_)
  · obtain ⟨O, p, lv, lh, S, fl, rfl, _⟩ := h
    rfl
  · obtain ⟨O, p, lv, lh, S, fl, rfl, hp, yo, hV, hh, k⟩ := h
    obtain ⟨xs, hv, hl, hx⟩ := id hV
    refine ⟨_, pss_cons (ps_setLc (i := 3) (own := [("k", 4)]) (g := gName 4) (tt := tTest (tOp rGt (tOp (rIxL K) (tVar 2) (tVar 4)) (tOp (rIxT K) (tOp (rIxL K) (tVar 1) (tVar 4)) (tC (.int 1))))) (te := tVar 4) rfl scFullW.nd rfl rfl (sw_true rfl rfl rfl (by decide +kernel))
        (pi_range1 (by rfl) B.range (pa_cons (pe_callB call_len_seq (by rfl) B.len PySem.boot_len (pa_cons (pv 1) pa_nil)) pa_nil)) (blkOk_by (N := ["play", "vats", "held", "due", "k"]) (sc := defScope sFullW) (by decide +kernel))
        (fun _ _ _ _ _ => pg_name (i := 4) scFullW.nd rfl (Or.inl rfl)) (fun _ _ _ _ _ => pts_one (pt_cmpR op_gt (pe_ix ix_list (pv 2) (pv 4) (fun _ _ => rfl)) (pe_ix ix_tup (pe_ix ix_list (pv 1) (pv 4) (fun _ _ => rfl)) pe_int (fun _ _ => rfl)) (nomark _))) (fun _ _ _ _ _ => pv 4))
      (pss_one (ps_ret (pe_and (pe_df dW hr (by decide) rfl pass0 (pa_cons (pe_md0 dF hr (by decide) pass0 (pv 0)) (pa_cons (pv 3) pa_nil))) (pe_one (pe_df dW hr (by decide) rfl pass0 (pa_cons (pe_md0 dH hr (by decide) pass0 (pv 0)) (pa_cons (pv 2) pa_nil))))))), ?_⟩
    refine ⟨_, rfl, lv, _, rfl, .inl (SqL.of hv), _, rfl, by omega, ?_, fun D hD => lc_range (lo := 0) (n := xs.length) (fun i H' => Same H H' ∧ H' D = some (.lst (natsV ((List.range i).filter fun j => decide (Y.room j < S.held j))))) ⟨same_upd hD, upd_same⟩ ?_ ?_⟩
    · have z := yo.n
      omega
    · rintro i H' hi ⟨sm, hd⟩
      have hin : i < Y.n := by omega
      have e0 : (0 : Int) + (i : Int) = (i : Int) := by omega
      obtain ⟨a, nm, e1, e2⟩ := hx i hin
      refine ⟨rfl, ?_⟩
      refine ⟨_, rfl, _, rfl, lh, _, _, _, rfl, rfl, SqL.of (sm _ _ hh), at_of (j := i) e0 (lsI_get _ hin), _, rfl, _, rfl, lv, _, _, _, rfl, rfl, SqL.of (sm _ _ hv), at_of (j := i) e0 e1, a, _, _, _, rfl, rfl, SqT.of (sm _ _ e2), at_of (j := 1) rfl rfl, _, _, rfl, rfl, _, rfl, ?_⟩
      have es := full_snoc (fun j => decide (Y.room j < S.held j)) i
      refine ite2D (fun hc => ?_) (fun hc => ?_)
      · rw [if_pos (decide_eq_true hc)] at es
        refine ⟨_, rfl, _, hd, ?_, fun b o e => ?_, ?_⟩
        · rw [natsV_len]
          have z := filter_le (fun j => decide (Y.room j < S.held j)) i
          have z2 := yo.n
          exact Nat.lt_of_le_of_lt z (small1000 (by omega))
        · rw [upd_ne (ne_of_none e hD)]
          exact sm _ _ e
        · rw [upd_same, es, natsV_snoc, e0]
      · rw [if_neg (by rw [decide_eq_false hc]; exact Bool.false_ne_true)] at es
        exact ⟨sm, by rw [es]; exact hd⟩
    · rintro G ⟨sm, hd⟩
      rw [hl] at hd
      obtain ⟨lv', lp', lh', lu', dc', c, _⟩ := (hp.same sm).core
      obtain ⟨dx, ob⟩ := c.ob
      refine ⟨_, rfl, p, dx, _, rfl, ob, pf_no _ _ _ _ _ _ (by decide +kernel), O, p, S, rfl, hp.same sm, yo, fun q H2 s2 fq hq => ?_⟩
      have ei : natsV ((List.range Y.n).filter fun j => decide (Y.room j < S.held j)) = ((fullL Y S.held).map fun (i : Nat) => (i : Int)).map V.int := natsV_ints _
      rw [ei] at hd
      rw [natsV_ints] at hq
      refine ⟨_, rfl, q, D, _, rfl, hq, s2 _ _ hd, ?_, true, rfl, ?_⟩
      · rw [List.length_map]
        have z := fullL_len Y yo S.held
        omega
      refine iteT (B := True) ⟨_, rfl, p, dx, _, rfl, s2 _ _ ob, pf_no _ _ _ _ _ _ (by decide +kernel), O, p, S, rfl, hp.same (sm.trans s2), fun q2 fq2 => ?_⟩
      have s3 := same_upd (o := .lst (lsI Y.n S.held)) fq2
      have hq2 : upd H2 q2 (.lst (lsI Y.n S.held)) q2 = some (.lst (lsI Y.n S.held)) := upd_same
      have hh2 := s3 _ _ (s2 _ _ (sm _ _ hh))
      have el := congrArg (fun z => some (HO.lst z)) (lsI_ints Y.n S.held)
      refine ⟨_, rfl, q2, lh, _, rfl, hq2.trans el, hh2.trans el, ?_, k _ ((sm.trans s2).trans s3)⟩
      rw [List.length_map]
      rw [List.length_range]
      have z := yo.n
      omega
def spRef (C : Addr) (Y : Yd) : Sp := fun vs H Q _ => ∃ (O : Addr → Prop) (p wy : Addr) (S : PS) (xs : List V), vs = [.ref p, .int (S.t : Int), .ref wy] ∧ PlayAt C Y H O p S ∧ YOk Y ∧ fullL Y S.held ≠ [] ∧ H wy = some (.lst xs) ∧ Tris H xs S.com ∧
  (∀ e, e ∈ S.com → BdT e) ∧ S.com.length < 64 ∧ ∀ H', Same H H' → Q (.bl true) H'
theorem scRef : FnScope ["play", "now", "way", "told", "k", "e"] ["play", "now", "way"] (defScope sRef) := ⟨rfl, rfl, rfl, by decide +kernel, rfl, by decide +kernel, by decide +kernel⟩
/-- thrice three answers more, then the last -/
def t_suite (K : PySem.W.Frag) (CF c1 c2 c3 c4 c5 c6 c7 c8 : Addr) (a : Addr) (cls : Value) (d : Option Addr) : TS :=
  tSeq (tAsg (tOp rCat (tVar 3) (tLst (tCons (tCB (rIsF K CF a cls d) (tCons (tVar 5) (tCons (tC (.ref c1)) tNil))) (tCons (tCB (rIsF K CF a cls d) (tCons (tVar 5) (tCons (tC (.ref c2)) tNil))) (tCons (tCB (rIsF K CF a cls d) (tCons (tVar 5) (tCons (tC (.ref c3)) tNil))) tNil))))) (gName 3))
  (tSeq (tAsg (tOp rCat (tVar 3) (tLst (tCons (tCB (rIsF K CF a cls d) (tCons (tVar 5) (tCons (tC (.ref c4)) tNil))) (tCons (tCB (rIsF K CF a cls d) (tCons (tVar 5) (tCons (tC (.ref c5)) tNil))) (tCons (tCB (rIsF K CF a cls d) (tCons (tVar 5) (tCons (tC (.ref c6)) tNil))) tNil))))) (gName 3))
  (tSeq (tAsg (tOp rCat (tVar 3) (tLst (tCons (tCB (rIsF K CF a cls d) (tCons (tVar 5) (tCons (tC (.ref c7)) tNil))) (tCons (tCB (rIsF K CF a cls d) (tCons (tVar 5) (tCons (tC (.ref c8)) tNil))) (tCons (tNotV (tCB (rIsF K CF a cls d) (tCons (tVar 5) (tCons (tC (.ty "ValueError")) tNil)))) tNil))))) (gName 3))
  (tAsg (tOp rCat (tVar 3) (tLst (tCons (tNotV (tCB (rIsF K CF a cls d) (tCons (tVar 5) (tCons (tC (.ref CF)) tNil)))) tNil))) (gName 3))))
/-- the try's body -/
def t_body (C CF : Addr) (Y : Yd) (W : WX) : TS := tDrop (tMeth0S C "go_on" (spGoOn C CF Y) (WE W) (tVar 0))
def t_try (K : PySem.W.Frag) (C CY CF c1 c2 c3 c4 c5 c6 c7 c8 : Addr) (Y : Yd) : TS := fun D σ H => t_body C CF Y (wAs K (.ref CY) 5 (t_suite K CF c1 c2 c3 c4 c5 c6 c7 c8) (fun _ _ _ _ => False) D) D σ H
theorem rep3 (m : Nat) : (List.replicate m false).map V.bl ++ [V.bl false, V.bl false, V.bl false] = (List.replicate (m + 3) false).map V.bl := by
  rw [← List.replicate_append_replicate, List.map_append]
  rfl
theorem rep1 (m : Nat) : (List.replicate m false).map V.bl ++ [V.bl false] = (List.replicate (m + 1) false).map V.bl := by
  rw [← List.replicate_append_replicate, List.map_append]
  rfl
theorem rep_len (m : Nat) : ((List.replicate m false).map V.bl).length = m := by simp
theorem ok_ref {f C CY CF c1 c2 c3 c4 c5 c6 c7 c8 : Addr} {fd : FuncData} {Y : Yd} (F : Fun K "_law_refused" "_law_refused" sRef f fd) (B : BTxt mg) (T : ETxt K mg CY CF c1 c2 c3 c4 c5 c6 c7 c8)
    (dW : Df P w K mg base CX0 1 "_law_whole" ["found", "due"] spWhole) (dG : Md P w K mg base (L2.CX P w) 2 C "go_on" ["self"] (spGoOn C CF Y)) (dN : Md P w K mg base CX0 1 C "now" ["self"] (spNow C Y)) (dU : Md P w K mg base CX0 1 C "under_way" ["self"] (spUnder C Y)) :
    FnOk P w K mg base CX0 3 f fd ["play", "now", "way"] (spRef C Y) := by
  refine F.ok scRef (fun vs H Q E h => ?_) (fun cdv A outer s H vs Q E hr h => ?_)
  · obtain ⟨O, p, wy, S, xs, rfl, _⟩ := h
    rfl
  · obtain ⟨O, p, wy, S, xs, rfl, hp, yo, hf, hw, ht, hb, h64, k⟩ := h
    refine ⟨_, pss_cons (ps_set (i := 3) scRef.nd rfl (Or.inl rfl) (pe_lst pa_nil))
      (pss_cons (ps_for PassesOwn.never rfl (pi_range1 (by rfl) B.range (pa_cons pe_int pa_nil)) (pg_name (i := 4) scRef.nd rfl (Or.inl rfl))
        (pss_one (t := t_try K C CY CF c1 c2 c3 c4 c5 c6 c7 c8 Y) (ps_try_as (i := 5) (tb := t_body C CF Y) (ts := t_suite K CF c1 c2 c3 c4 c5 c6 c7 c8) (Wout := fun _ _ _ _ => False) rfl rfl scRef.nd rfl rfl ⟨rfl, by decide, Or.inl T.gY⟩ takes0
          (fun W pn xe tk _ => pss_one (ps_expr (by exact pe_md0S dG hr (by decide) (fun σ => passAt tk σ) (pv 0))))
          (fun a oe cls d pn hz hf => by
            exact pss_cons (ps_set (i := 3) scRef.nd rfl (Or.inl rfl) (pe_op op_cat (pv 3) (pe_lst (pa_cons (pe_callB (call_isF T.ec hz hf) (by rfl) B.isi (by decide +kernel) (pa_cons (pv 5) (pa_cons (pe_glob (v := .ref c1) rfl T.g1 rfl) pa_nil)))
                (pa_cons (pe_callB (call_isF T.ec hz hf) (by rfl) B.isi (by decide +kernel) (pa_cons (pv 5) (pa_cons (pe_glob (v := .ref c2) rfl T.g2 rfl) pa_nil))) (pa_cons (pe_callB (call_isF T.ec hz hf) (by rfl) B.isi (by decide +kernel) (pa_cons (pv 5) (pa_cons (pe_glob (v := .ref c3) rfl T.g3 rfl) pa_nil))) pa_nil))))))
              (pss_cons (ps_set (i := 3) scRef.nd rfl (Or.inl rfl) (pe_op op_cat (pv 3) (pe_lst (pa_cons (pe_callB (call_isF T.ec hz hf) (by rfl) B.isi (by decide +kernel) (pa_cons (pv 5) (pa_cons (pe_glob (v := .ref c4) rfl T.g4 rfl) pa_nil)))
                (pa_cons (pe_callB (call_isF T.ec hz hf) (by rfl) B.isi (by decide +kernel) (pa_cons (pv 5) (pa_cons (pe_glob (v := .ref c5) rfl T.g5 rfl) pa_nil))) (pa_cons (pe_callB (call_isF T.ec hz hf) (by rfl) B.isi (by decide +kernel) (pa_cons (pv 5) (pa_cons (pe_glob (v := .ref c6) rfl T.g6 rfl) pa_nil))) pa_nil))))))
              (pss_cons (ps_set (i := 3) scRef.nd rfl (Or.inl rfl) (pe_op op_cat (pv 3) (pe_lst (pa_cons (pe_callB (call_isF T.ec hz hf) (by rfl) B.isi (by decide +kernel) (pa_cons (pv 5) (pa_cons (pe_glob (v := .ref c7) rfl T.g7 rfl) pa_nil)))
                (pa_cons (pe_callB (call_isF T.ec hz hf) (by rfl) B.isi (by decide +kernel) (pa_cons (pv 5) (pa_cons (pe_glob (v := .ref c8) rfl T.g8 rfl) pa_nil))) (pa_cons (pe_not (pe_callB (call_isF T.ec hz hf) (by rfl) B.isi (by decide +kernel) (pa_cons (pv 5) (pa_cons (pe_bltn (v := .ty "ValueError") (u := .type "ValueError") (by rfl) T.gV (by decide +kernel) rfl) pa_nil)))) pa_nil))))))
              (pss_one (ps_set (i := 3) scRef.nd rfl (Or.inl rfl) (pe_op op_cat (pv 3) (pe_lst (pa_cons (pe_not (pe_callB (call_isF T.ec hz hf) (by rfl) B.isi (by decide +kernel) (pa_cons (pv 5) (pa_cons (pe_glob (v := .ref CF) rfl T.gF rfl) pa_nil)))) pa_nil)))))))))))
      (pss_one (ps_ret (pe_and (pe_cmpR (op_eqD hr.units) (pv 3) (pe_op op_rep (pe_lst (pa_cons pe_bl pa_nil)) pe_int) (nomark _))
        (pe_and (pe_df dW hr (by decide) rfl pass0 (pa_cons (pe_md0 dN hr (by decide) pass0 (pv 0)) (pa_cons (pv 1) pa_nil)))
        (pe_one (pe_cmpR (op_eqD hr.units) (pe_md0 dU hr (by decide) pass0 (pv 0)) (pe_callB (cr_sortT (d := 3) (B := BB) (by decide)) (by rfl) B.sorted (by decide +kernel) (pa_cons (pv 2) pa_nil)) (nomark _)))))))), ?_⟩
    -- nothing told yet
    refine ⟨(by show 0 ≤ sizeLine; decide), fun q0 f0 => ?_⟩
    refine ⟨_, rfl, by decide, by decide, for_range (lo := 0) (n := 2) (fun i σ H' => ∃ (tl : Addr) (v4 : Option V), σ = [some (.ref p), some (.int (S.t : Int)), some (.ref wy), some (.ref tl), v4, none] ∧ Same H H' ∧ H' tl = some (.lst ((List.replicate (10 * i) false).map V.bl))) ?_ ?_ ?_⟩
    · exact ⟨q0, none, rfl, same_upd f0, upd_same⟩
    · rintro i σ H' hi ⟨tl, v4, rfl, sm, htl⟩
      obtain ⟨lv, lp, lh, lu, dc, c, _⟩ := (hp.same sm).core
      obtain ⟨dx, ob⟩ := c.ob
      refine ⟨_, rfl, p, dx, _, rfl, ob, pf_no _ _ _ _ _ _ (by decide +kernel), O, p, S, rfl, hp.same sm, yo, fun e => absurd e hf, fun _ H2 s2 => ?_⟩
      refine ⟨true, T.ex, fun _ a ha => ?_, fun q => Bool.noConfusion q⟩
      have h2 := s2 _ _ htl
      have m2 := sm.trans s2
      -- three answers told, thrice, then one
      refine ⟨_, rfl, _, rfl, rfl, rfl, _, _, false, rfl, bl_rel, T.k1, _, rfl, rfl, rfl, _, _, false, rfl, bl_rel, T.k2, _, rfl, rfl, rfl, _, _, false, rfl, bl_rel, T.k3, (by show 3 ≤ sizeLine; decide), fun l3 f3 => ⟨tl, l3, _, [V.bl false, V.bl false, V.bl false], rfl, rfl, same_upd f3 _ _ h2, upd_same, ?_, fun q3 g3 => ?_⟩⟩
      · rw [rep_len]
        show 10 * i + 3 ≤ sizeLine
        exact Nat.le_of_lt (small1000 (by omega))
      rw [rep3]
      have m3 := m2.trans ((same_upd f3).trans (same_upd (o := .lst ((List.replicate (10 * i + 3) false).map V.bl)) g3))
      have h3 : upd (upd H2 l3 (.lst [V.bl false, V.bl false, V.bl false])) q3 (.lst ((List.replicate (10 * i + 3) false).map V.bl)) q3 = some (.lst ((List.replicate (10 * i + 3) false).map V.bl)) := upd_same
      generalize upd (upd H2 l3 (.lst [V.bl false, V.bl false, V.bl false])) q3 (.lst ((List.replicate (10 * i + 3) false).map V.bl)) = G3 at m3 h3 ⊢
      refine ⟨_, rfl, _, rfl, rfl, rfl, _, _, false, rfl, bl_rel, T.k4, _, rfl, rfl, rfl, _, _, false, rfl, bl_rel, T.k5, _, rfl, rfl, rfl, _, _, false, rfl, bl_rel, T.k6, (by show 3 ≤ sizeLine; decide), fun l4 f4 => ⟨q3, l4, _, [V.bl false, V.bl false, V.bl false], rfl, rfl, same_upd f4 _ _ h3, upd_same, ?_, fun q4 g4 => ?_⟩⟩
      · rw [rep_len]
        show 10 * i + 3 + 3 ≤ sizeLine
        exact Nat.le_of_lt (small1000 (by omega))
      rw [rep3]
      have m4 := m3.trans ((same_upd f4).trans (same_upd (o := .lst ((List.replicate (10 * i + 3 + 3) false).map V.bl)) g4))
      have h4 : upd (upd G3 l4 (.lst [V.bl false, V.bl false, V.bl false])) q4 (.lst ((List.replicate (10 * i + 3 + 3) false).map V.bl)) q4 = some (.lst ((List.replicate (10 * i + 3 + 3) false).map V.bl)) := upd_same
      generalize upd (upd G3 l4 (.lst [V.bl false, V.bl false, V.bl false])) q4 (.lst ((List.replicate (10 * i + 3 + 3) false).map V.bl)) = G4 at m4 h4 ⊢
      refine ⟨_, rfl, _, rfl, rfl, rfl, _, _, false, rfl, bl_rel, T.k7, _, rfl, rfl, rfl, _, _, false, rfl, bl_rel, T.k8, _, rfl, rfl, rfl, _, _, true, rfl, ty_rel, T.kV, true, rfl, (by show 3 ≤ sizeLine; decide), fun l5 f5 => ⟨q4, l5, _, [V.bl false, V.bl false, V.bl false], rfl, rfl, same_upd f5 _ _ h4, upd_same, ?_, fun q5 g5 => ?_⟩⟩
      · rw [rep_len]
        show 10 * i + 3 + 3 + 3 ≤ sizeLine
        exact Nat.le_of_lt (small1000 (by omega))
      rw [rep3]
      have m5 := m4.trans ((same_upd (o := .lst [V.bl false, V.bl false, V.bl false]) f5).trans (same_upd (o := .lst ((List.replicate (10 * i + 3 + 3 + 3) false).map V.bl)) g5))
      have h5 : upd (upd G4 l5 (.lst [V.bl false, V.bl false, V.bl false])) q5 (.lst ((List.replicate (10 * i + 3 + 3 + 3) false).map V.bl)) q5 = some (.lst ((List.replicate (10 * i + 3 + 3 + 3) false).map V.bl)) := upd_same
      refine ⟨_, rfl, _, rfl, rfl, rfl, _, _, true, rfl, bl_rel, T.kF, true, rfl, (by show 1 ≤ sizeLine; decide), fun l6 f6 => ⟨q5, l6, _, [V.bl false], rfl, rfl, same_upd f6 _ _ h5, upd_same, ?_, fun q6 g6 => ?_⟩⟩
      · rw [rep_len]
        show 10 * i + 3 + 3 + 3 + 1 ≤ sizeLine
        exact Nat.le_of_lt (small1000 (by omega))
      rw [rep1]
      refine ⟨q6, _, rfl, m5.trans ((same_upd f6).trans (same_upd g6)), ?_⟩
      rw [upd_same]
      have e : 10 * i + 3 + 3 + 3 + 1 = 10 * (i + 1) := by omega
      rw [e]
    · rintro σ H' ⟨tl, v4, rfl, sm, htl⟩
      obtain ⟨lv, lp, lh, lu, dc, c, _⟩ := (hp.same sm).core
      obtain ⟨dx, ob⟩ := c.ob
      refine ⟨_, rfl, (by show 1 ≤ sizeLine; decide), fun z fz => ⟨z, _, _, rfl, rfl, upd_same, by decide, by decide, (by show 1 * 20 ≤ sizeLine; decide), fun r fr => ?_⟩⟩
      have s2 := (same_upd (o := .lst [V.bl false]) fz).trans (same_upd (o := .lst (List.replicate (20 : Int).toNat [V.bl false]).flatten) fr)
      have h1 := s2 _ _ htl
      have h2 : upd (upd H' z (.lst [V.bl false])) r (.lst (List.replicate (20 : Int).toNat [V.bl false]).flatten) r = some (.lst ((List.replicate (10 * 2) false).map V.bl)) := upd_same
      generalize upd (upd H' z (.lst [V.bl false])) r (.lst (List.replicate (20 : Int).toNat [V.bl false]).flatten) = G at s2 h1 h2 ⊢
      refine ⟨_, _, .lst (SqL.of h1) (dp_bls _), .lst (SqL.of h2) (dp_bls _), by decide, by decide, true, ?_, ?_⟩
      · decide
      have sg := sm.trans s2
      refine iteT (B := True) ⟨_, rfl, p, dx, _, rfl, s2 _ _ ob, pf_no _ _ _ _ _ _ (by decide +kernel), O, p, S, rfl, hp.same sg, _, rfl, _, rfl, true, rfl, ?_⟩
      refine iteT (B := True) ⟨_, rfl, p, dx, _, rfl, s2 _ _ ob, pf_no _ _ _ _ _ _ (by decide +kernel), O, p, S, rfl, hp.same sg, hb, h64, fun q G2 ys s3 fq hq ht2 => ?_⟩
      have s4 := sg.trans s3
      refine ⟨_, rfl, wy, xs, rfl, SqL.of (s4 _ _ hw), by rw [tris_len ht]; exact h64, fun x hx => ?_, fun zs u hpm hpw hu => ?_⟩
      · obtain ⟨e, he, hr'⟩ := pmem1 (ht.same s4) hx
        exact ⟨_, tri_tupI hr', rfl, bd_tr (hb e he)⟩
      · have s5 := same_upd (o := .lst zs) hu
        refine ⟨_, _, .lst (SqL.of (s5 _ _ hq)) (dp_tris (ht2.same s5)), .lst (SqL.of upd_same) (dp_tris ((tris_sorted hb (ht.same s4) hpm hpw).same s5)), shaped_tris _, shaped_tris _, ?_⟩
        rw [SeqAt.eqv_refl _ (by rw [PyData.canLay0]; exact canLay_tris _)]
        exact k _ (s4.trans s5)
end
end Vy

/-! VyLawF: on to a moment; some let on. -/
namespace Vy
open PyProof.Rows PySem PySem.Spec L2
abbrev sOnTo : Stmt := top 30
abbrev sLetOn : Stmt := top 31
def goN (Y : Yd) : Nat → PS → PS
  | 0, S => S
  | n + 1, S => goOn Y (goN Y n S)
theorem goN_t (Y : Yd) (S : PS) : ∀ n, (goN Y n S).t = S.t + n
  | 0 => rfl
  | n + 1 => by
    show (goN Y n S).t + 1 = S.t + (n + 1)
    rw [goN_t Y S n]
    omega
/-- .. and what stands outside stays outside -/
structure Fr (O : Addr → Prop) (H : Hp) (O' : Addr → Prop) (H' : Hp) : Prop where
  kp : Kp O H H'
  out : ∀ b o, H b = some o → ¬ O b → ¬ O' b
theorem Fr.refl (O : Addr → Prop) (H : Hp) : Fr O H O H := ⟨fun _ _ e _ => e, fun _ _ _ n => n⟩
theorem Fr.step {O O' : Addr → Prop} {H H' H'' : Hp} (f : Fr O H O' H') (k : Kp O' H' H'') : Fr O H (fun b => O' b ∨ H' b = none) H'' := by
  refine ⟨fun b o e n => ?_, fun b o e n => ?_⟩
  · have e1 := f.kp b o e n
    by_cases hO : O b
    · obtain ⟨ys, rfl⟩ := n hO
      exact k b _ e1 fun _ => ⟨ys, rfl⟩
    · exact k.out e1 (f.out b o e hO)
  · have e1 := f.kp b o e fun z => absurd z n
    rintro (z | z)
    · exact f.out b o e n z
    · rw [z] at e1
      cases e1
def spOnTo (C : Addr) (Y : Yd) : Sp := fun vs H Q _ => ∃ (O : Addr → Prop) (p : Addr) (S : PS) (k : Nat), vs = [.ref p, .int (S.t : Int), .int ((S.t + k : Nat) : Int)] ∧ PlayAt C Y H O p S ∧ YOk Y ∧ (∀ i, i < k → fullL Y (goN Y i S).held = []) ∧
  ∀ O' H', PlayAt C Y H' O' p (goN Y k S) → Fr O H O' H' → Q (.bl true) H'
def spLetOn (C : Addr) (Y : Yd) : Sp := fun vs H Q _ => ∃ (O : Addr → Prop) (p lv lh : Addr) (S : PS) (fl : Nat → Int) (i : Nat) (a : Int) (bs : List (Nat × Nat × Int)) (x : Int), vs = [.ref p, .ref lv, .ref lh, .int (i : Int), .int ((Y.pipe i).s : Int), .int a] ∧ PlayAt C Y H O p S ∧ YOk Y ∧ VatsAt H lv Y.n Y.room fl ∧ ¬ O lv ∧
  H lh = some (.lst (lsI Y.n S.held)) ∧ ¬ O lh ∧ lv ≠ lh ∧ i < Y.m ∧ 0 ≤ a ∧ a ≤ WID - S.used i ∧ a ≤ S.held (Y.pipe i).s ∧ S.com = bs ++ tail (S.t + (Y.pipe i).len, i) x ∧ 0 ≤ x ∧ (¬ (S.t + (Y.pipe i).len, i) ∈ bs.map ky) ∧ bs.length < 100 ∧
  ∀ H', PlayAt C Y H' O p (letS Y S i a bs x) → H' lh = some (.lst (lsI Y.n (letS Y S i a bs x).held)) → (∀ b o, H b = some o → b ≠ lh → (O b → ∃ ys, o = .tup ys) → H' b = some o) → Q (.bl true) H'
section
variable {K : PySem.W.Frag} {P : Program} {w : World} {mg : Str → Option Value} {base : Heap}
theorem scOnTo : FnScope ["play", "now", "later"] ["play", "now", "later"] (defScope sOnTo) := ⟨rfl, rfl, rfl, by decide +kernel, rfl, by decide +kernel, by decide +kernel⟩
theorem ok_onTo {f C CF : Addr} {fd : FuncData} {Y : Yd} (F : Fun K "_law_on_to" "_law_on_to" sOnTo f fd) (dW : Df P w K mg base CX0 1 "_law_whole" ["found", "due"] spWhole) (dG : Md P w K mg base (L2.CX P w) 2 C "go_on" ["self"] (spGoOn C CF Y)) :
    FnOk P w K mg base CX0 3 f fd ["play", "now", "later"] (spOnTo C Y) := by
  refine F.ok scOnTo (fun vs H Q E h => ?_) (fun cdv A outer s H vs Q E hr h => ?_)
  · obtain ⟨O, p, S, k, rfl, _⟩ := h
    rfl
  · obtain ⟨O, p, S, k, rfl, hp, yo, hf, q⟩ := h
    refine ⟨_, pss_cons (ps_while PassesOwn.never (pt_cmpR op_lt (pv 1) (pv 2) (nomark _)) (pss_cons (ps_set (i := 1) scOnTo.nd rfl (Or.inl rfl) (pe_op op_add (pv 1) pe_int))
        (pss_one (ps_if (pt_not (pt_val (pe_df dW hr (by decide) rfl pass0 (pa_cons (pe_md0 dG hr (by decide) passL (pv 0)) (pa_cons (pv 1) pa_nil))))) (pss_one ps_never) pss_nil))))
      (pss_one (ps_ret pe_bl)), ?_⟩
    refine ⟨fun m σ H' => ∃ i, i ≤ k ∧ m = k - i ∧ σ = [some (.ref p), some (.int ((S.t + i : Nat) : Int)), some (.int ((S.t + k : Nat) : Int))] ∧ ∃ O', PlayAt C Y H' O' p (goN Y i S) ∧ Fr O H O' H', ⟨k, 0, Nat.zero_le _, rfl, rfl, O, hp, Fr.refl O H⟩, ?_⟩
    rintro m σ H' ⟨i, hi, rfl, rfl, O', hp', hfr⟩
    refine ⟨_, rfl, _, rfl, _, _, rfl, rfl, _, rfl, ite2D (fun hc => ?_) (fun hc => ?_)⟩
    · have hik : i < k := by omega
      refine ⟨_, fun _ _ z => ⟨k - (i + 1), by omega, z⟩, ?_⟩
      obtain ⟨lv, lp, lh, lu, dc, c, _⟩ := hp'.core
      obtain ⟨dx, ob⟩ := c.ob
      refine ⟨_, rfl, _, _, rfl, rfl, _, rfl, p, dx, _, rfl, ob, pf_no _ _ _ _ _ _ (by decide +kernel), O', p, goN Y i S, rfl, hp', yo, fun _ H2 hp2 kp2 => ?_, fun e => absurd (hf i hik) e⟩
      have e1 : ((S.t + i : Nat) : Int) + 1 = (((goN Y i S).t + 1 : Nat) : Int) := by
        rw [goN_t]
        omega
      refine ⟨_, rfl, (((goN Y i S).t + 1 : Nat) : Int), ?_, true, rfl, ?_⟩
      · exact congrArg (fun z => [V.int (((goN Y i S).t + 1 : Nat) : Int), V.int z]) e1
      refine iteF (A := True) ⟨i + 1, hik, rfl, ?_, _, hp2, hfr.step kp2⟩
      rw [show ((S.t + (i + 1) : Nat) : Int) = ((S.t + i : Nat) : Int) + 1 from by omega]
      rfl
    · have hik : i = k := by omega
      subst hik
      exact q O' H' hp' hfr
theorem scLetOn : FnScope ["play", "vats", "held", "at", "start", "amount"] ["play", "vats", "held", "at", "start", "amount"] (defScope sLetOn) := ⟨rfl, rfl, rfl, by decide +kernel, rfl, by decide +kernel, by decide +kernel⟩
theorem letS_zero {Y : Yd} {S : PS} {i : Nat} {bs : List (Nat × Nat × Int)} {x : Int} (h : S.com = bs ++ tail (S.t + (Y.pipe i).len, i) x) : letS Y S i 0 bs x = S := by
  obtain ⟨t, hd, us, cm⟩ := S
  unfold letS
  congr 1
  · funext k
    show (if k = (Y.pipe i).s then hd (Y.pipe i).s - 0 else hd k) = hd k
    by_cases e : k = (Y.pipe i).s
    · rw [if_pos e, e]
      omega
    · rw [if_neg e]
  · funext k
    show (if k = i then us i + 0 else us k) = us k
    by_cases e : k = i
    · rw [if_pos e, e]
      omega
    · rw [if_neg e]
  · show bs ++ tail _ (x + 0) = cm
    rw [Int.add_zero]
    exact h.symm
theorem ok_letOn {f C : Addr} {fd : FuncData} {Y : Yd} (F : Fun K "_law_let_on" "_law_let_on" sLetOn f fd) (dW : Df P w K mg base CX0 1 "_law_whole" ["found", "due"] spWhole) (dL : Md P w K mg base CX0 6 C "let" ["self", "pipe", "amount"] (spLet C Y)) (dF : Df P w K mg base CX0 3 "_law_full" ["play", "vats", "held"] (spFullW C Y)) :
    FnOk P w K mg base CX0 7 f fd ["play", "vats", "held", "at", "start", "amount"] (spLetOn C Y) := by
  refine F.ok scLetOn (fun vs H Q E h => ?_) (fun cdv A outer s H vs Q E hr h => ?_)
  · obtain ⟨O, p, lv, lh, S, fl, i, a, bs, x, rfl, _⟩ := h
    rfl
  · obtain ⟨O, p, lv, lh, S, fl, i, a, bs, x, rfl, hp, yo, hV, nlv, hh, nlh, nvh, hi, ha0, ha1, ha2, hcm, hx, hk, hbl, q⟩ := h
    obtain ⟨lv', lp', lh', lu', dc', c, op, oh, ou, oc⟩ := hp.core
    obtain ⟨dx, ob⟩ := c.ob
    have hs := (yo.ends i hi).1
    refine ⟨_, pss_cons (ps_if (pt_cmpR op_gt (pv 5) pe_int (nomark _)) (pss_cons (ps_asg (pe_op op_sub (pe_ix ix_list (pv 2) (pv 4) (fun _ _ => rfl)) (pv 5)) (pg_sub (pv 2) (pv 4) set_list))
        (pss_one (ps_if (pt_not (pt_val (pe_df dW hr (by decide) rfl pass0 (pa_cons (pe_md dL hr (by decide) pass0 (pv 0) (pa_cons (pv 3) (pa_cons (pv 5) pa_nil))) (pa_cons (pe_ix ix_list (pv 2) (pv 4) (fun _ _ => rfl)) pa_nil))))) (pss_one ps_never) pss_nil))) pss_nil)
      (pss_one (ps_ret (pe_df dF hr (by decide) rfl pass0 (pa_cons (pv 0) (pa_cons (pv 1) (pa_cons (pv 2) pa_nil)))))), ?_⟩
    refine ⟨_, rfl, _, _, rfl, rfl, _, rfl, ite2D (fun hc => ?_) (fun hc => ?_)⟩
    · -- less is held
      refine ⟨_, rfl, _, rfl, lh, _, _, _, rfl, rfl, SqL.of hh, atI_nat (lsI_get _ hs), _, rfl, _, _, rfl, rfl, _, rfl, _, rfl, lh, _, _, _, rfl, rfl, hh, ixN_nat (by rw [lsI_len]; exact hs), ?_⟩
      rw [lsI_set]
      have k1 : ∀ b o, H b = some o → b ≠ lh → upd H lh (.lst (lsI Y.n fun k => if k = (Y.pipe i).s then S.held (Y.pipe i).s - a else S.held k)) b = some o := fun b o e n => by rw [upd_ne n]; exact e
      have h1 : upd H lh (.lst (lsI Y.n fun k => if k = (Y.pipe i).s then S.held (Y.pipe i).s - a else S.held k)) lh = some (.lst (lsI Y.n fun k => if k = (Y.pipe i).s then S.held (Y.pipe i).s - a else S.held k)) := upd_same
      generalize upd H lh (.lst (lsI Y.n fun k => if k = (Y.pipe i).s then S.held (Y.pipe i).s - a else S.held k)) = H1 at k1 h1 ⊢
      have t1 : ∀ b ys, H b = some (.tup ys) → H1 b = some (.tup ys) := fun b ys e => k1 b _ e (ne_of e hh (by intro z; cases z))
      have v1 := hV.keep (fun o e => k1 lv o e nvh) t1
      have c1 : PlayAt C Y H1 O p S := hp.keep fun b o e z => by
        rcases z with z | ⟨ys, rfl⟩
        · exact k1 b o e fun w => nlh (by rw [← w]; exact z)
        · exact t1 b ys e
      obtain ⟨_, _, _, _, _, cc, _⟩ := c1.core
      obtain ⟨dx1, ob1⟩ := cc.ob
      -- the Play lets it in
      refine ⟨_, rfl, p, dx1, _, rfl, ob1, pf_no _ _ _ _ _ _ (by decide +kernel), _, rfl, _, rfl, O, p, S, i, a, bs, x, rfl, c1, yo, hi, by omega, ha1, ha2, hcm, hx, hk, hbl, fun H2 hp2 kp2 => ?_⟩
      have h2 := kp2.out h1 nlh
      refine ⟨_, rfl, _, rfl, lh, _, _, _, rfl, rfl, SqL.of h2, atI_nat (lsI_get _ hs), S.held (Y.pipe i).s - a, ?_, true, rfl, ?_⟩
      · rw [if_pos rfl]
        rfl
      refine iteF (A := True) ?_
      -- the vats that are full, what they hold
      refine ⟨_, rfl, _, rfl, _, rfl, O, p, lv, lh, letS Y S i a bs x, fl, rfl, hp2, yo, v1.keep (fun o e => kp2.out e nlv) kp2.tup, h2, fun H3 s3 => ?_⟩
      exact q H3 (hp2.same s3) (s3 _ _ h2) fun b o e n z => s3 _ _ (kp2 b o (k1 b o e n) z)
    · have e0 : a = 0 := by omega
      subst e0
      have eS := letS_zero hcm
      refine ⟨_, rfl, _, rfl, _, rfl, O, p, lv, lh, S, fl, rfl, hp, yo, hV, hh, fun H3 s3 => ?_⟩
      rw [eS] at q
      exact q H3 (hp.same s3) (s3 _ _ hh) fun b o e _ _ => s3 _ _ e
end
end Vy

/-! VyLawG: a vat is emptied down to its room, in parts. -/
namespace Vy
open PyProof.Rows PySem PySem.Spec L2
abbrev sEmp : Stmt := top 32
theorem letS_add (Y : Yd) (S : PS) (i : Nat) (bs : List (Nat × Nat × Int)) (x b : Int) : letS Y (letS Y S i x bs 0) i b bs x = letS Y S i (x + b) bs 0 := by
  unfold letS
  congr 1
  · funext k
    show (if k = (Y.pipe i).s then (if (Y.pipe i).s = (Y.pipe i).s then S.held (Y.pipe i).s - x else S.held (Y.pipe i).s) - b else if k = (Y.pipe i).s then S.held (Y.pipe i).s - x else S.held k) = if k = (Y.pipe i).s then S.held (Y.pipe i).s - (x + b) else S.held k
    rw [if_pos rfl]
    by_cases e : k = (Y.pipe i).s
    · rw [if_pos e, if_pos e]
      omega
    · rw [if_neg e, if_neg e, if_neg e]
  · funext k
    show (if k = i then (if i = i then S.used i + x else S.used i) + b else if k = i then S.used i + x else S.used k) = if k = i then S.used i + (x + b) else S.used k
    rw [if_pos rfl]
    by_cases e : k = i
    · rw [if_pos e, if_pos e]
      omega
    · rw [if_neg e, if_neg e, if_neg e]
  · show bs ++ tail (S.t + (Y.pipe i).len, i) (x + b) = bs ++ tail (S.t + (Y.pipe i).len, i) (0 + (x + b))
    rw [Int.zero_add]
theorem sum_take_succ {pt : List Int} {j : Nat} {z : Int} (h : pt[j]? = some z) : (pt.take (j + 1)).sum = (pt.take j).sum + z := by
  rw [take_snoc h, List.sum_append]
  simp
theorem sum_nonneg : ∀ {l : List Int}, (∀ x, x ∈ l → 0 ≤ x) → 0 ≤ l.sum
  | [], _ => by simp
  | x :: r, h => by
    rw [List.sum_cons]
    have h1 := h x List.mem_cons_self
    have h2 := sum_nonneg (l := r) fun y hy => h y (List.mem_cons_of_mem _ hy)
    omega
theorem sum_take_le {pt : List Int} (h : ∀ x, x ∈ pt → 0 ≤ x) (j : Nat) : 0 ≤ (pt.take j).sum ∧ (pt.take j).sum ≤ pt.sum := by
  have e : (pt.take j).sum + (pt.drop j).sum = pt.sum := by rw [← List.sum_append, List.take_append_drop]
  have h1 := sum_nonneg (l := pt.take j) fun x hx => h x (List.mem_of_mem_take hx)
  have h2 := sum_nonneg (l := pt.drop j) fun x hx => h x (List.mem_of_mem_drop hx)
  omega
def spEmp (C : Addr) (Y : Yd) : Sp := fun vs H Q _ => ∃ (O : Addr → Prop) (p lv lp lh pr wy : Addr) (S : PS) (fl : Nat → Int) (i : Nat) (pt : List Int) (zs : List V), vs = [.ref p, .ref lv, .ref lp, .ref lh, .int ((Y.pipe i).s : Int), .ref pr, .int (S.t : Int), .ref wy] ∧
  PlayAt C Y H O p S ∧ YOk Y ∧ VatsAt H lv Y.n Y.room fl ∧ ¬ O lv ∧ PipesAt H lp Y.m Y.pipe ∧ ¬ O lp ∧ H lh = some (.lst (lsI Y.n S.held)) ∧ ¬ O lh ∧ H pr = some (.lst (pt.map V.int)) ∧ ¬ O pr ∧ H wy = some (.lst zs) ∧ ¬ O wy ∧ Tris H zs S.com ∧
  lv ≠ lh ∧ lp ≠ lh ∧ pr ≠ lh ∧ wy ≠ lh ∧ i < Y.m ∧ (∀ j, j < i → (Y.pipe j).s ≠ (Y.pipe i).s) ∧ (∀ x, x ∈ pt → 0 ≤ x) ∧ pt.sum ≤ WID - S.used i ∧ pt.sum ≤ S.held (Y.pipe i).s ∧ pt.length ≤ 100 ∧
  (¬ (S.t + (Y.pipe i).len, i) ∈ S.com.map ky) ∧ S.com.length < 50 ∧ (∀ e, e ∈ S.com → BdT e) ∧ BdT (S.t + (Y.pipe i).len, i, pt.sum) ∧
  ∀ H' zs', PlayAt C Y H' O p (letS Y S i pt.sum S.com 0) → H' lh = some (.lst (lsI Y.n (letS Y S i pt.sum S.com 0).held)) → H' wy = some (.lst zs') → Tris H' zs' (letS Y S i pt.sum S.com 0).com → (∀ b o, H b = some o → b ≠ lh → b ≠ wy → (O b → ∃ ys, o = .tup ys) → H' b = some o) → Q (.bl true) H'
theorem bd_tail {k : Nat × Nat} {x y : Int} (h : BdT (k.1, k.2, y)) (hx : 0 ≤ x) (hy : x ≤ y) : ∀ e, e ∈ tail k x → BdT e := by
  intro e he
  unfold tail at he
  split at he
  · cases List.mem_singleton.mp he
    obtain ⟨h1, h2, h3, h4⟩ := h
    exact ⟨h1, h2, hx, by show x < BB; have h4 : y < BB := h4; omega⟩
  · exact absurd he List.not_mem_nil
theorem tail_len (k : Nat × Nat) (x : Int) : (tail k x).length ≤ 1 := by
  unfold tail
  split
  · exact Nat.le_refl 1
  · exact Nat.zero_le 1
section
variable {K : PySem.W.Frag} {P : Program} {w : World} {mg : Str → Option Value} {base : Heap}
abbrev nEmp : List Str := ["play", "vats", "pipes", "held", "start", "parts", "now", "way", "at", "sent", "part", "gone", "one", "k"]
theorem scEmp : FnScope nEmp ["play", "vats", "pipes", "held", "start", "parts", "now", "way"] (defScope sEmp) := ⟨rfl, rfl, rfl, by decide +kernel, rfl, by decide +kernel, by decide +kernel⟩
theorem ok_emp {f C : Addr} {fd : FuncData} {Y : Yd} (F : Fun K "_law_emptied" "_law_emptied" sEmp f fd) (B : BTxt mg) (dL : Df P w K mg base CX0 7 "_law_let_on" ["play", "vats", "held", "at", "start", "amount"] (spLetOn C Y)) (dR : Df P w K mg base CX0 3 "_law_refused" ["play", "now", "way"] (spRef C Y)) :
    FnOk P w K mg base CX0 8 f fd ["play", "vats", "pipes", "held", "start", "parts", "now", "way"] (spEmp C Y) := by
  refine F.ok scEmp (fun vs H Q E h => ?_) (fun cdv A outer s H vs Q E hr h => ?_)
  · obtain ⟨O, p, lv, lp, lh, pr, wy, S, fl, i, pt, zs, rfl, _⟩ := h
    rfl
  · obtain ⟨O, p, lv, lp, lh, pr, wy, S, fl, i, pt, zs, rfl, hp, yo, hV, nlv, hP, nlp, hh, nlh, hpr, npr, hwy, nwy, ht, nvh, nph, nrh, nwh, hi, hfi, hpt, hs1, hs2, hpl, hk, hbl, hbd, hbt, q⟩ := h
    refine ⟨_, pss_cons (ps_set (i := 8) scEmp.nd rfl (Or.inl rfl) (pe_bm PySem.F.plainAttrs_list PySem.F.slot_list_index PySem.F.type_list_index mt_index
        (pe_lc (own := [("one", 12)]) (g := gName 12) (te := tOp (rIxT K) (tVar 12) (tC (.int 0))) rfl scEmp.nd (pi_list (pv 2)) (blkOk_by (N := nEmp) (sc := defScope sEmp) (by decide +kernel))
          (fun _ _ _ _ _ => pg_name (i := 12) scEmp.nd rfl (Or.inl rfl)) (fun _ _ _ _ _ => pts_nil) (fun _ _ _ _ _ => pe_ix ix_tup (pv 12) pe_int (fun _ _ => rfl))) (pa_cons (pv 4) pa_nil)))
      (pss_cons (ps_set (i := 9) scEmp.nd rfl (Or.inl rfl) pe_int)
      (pss_cons (ps_for PassesOwn.never rfl (pi_list (pv 5)) (pg_name (i := 10) scEmp.nd rfl (Or.inl rfl))
        (pss_cons (ps_if (pt_not (pt_val (pe_df dL hr (by decide) rfl pass0 (pa_cons (pv 0) (pa_cons (pv 1) (pa_cons (pv 3) (pa_cons (pv 8) (pa_cons (pv 4) (pa_cons (pv 10) pa_nil))))))))) (pss_one ps_never) pss_nil)
        (pss_cons (ps_set (i := 9) scEmp.nd rfl (Or.inl rfl) (pe_op op_add (pv 9) (pv 10)))
        (pss_cons (ps_set (i := 11) scEmp.nd rfl (Or.inl rfl) (pe_callTy call_list_of (by rfl) B.list (by decide +kernel) (pa_cons (pv 7) pa_nil)))
        (C8.pss_cut (ps_if (pt_cmpR op_gt (pv 9) pe_int (nomark _)) (pss_one (ps_expr (pe_bm PySem.F.plainAttrs_list PySem.F.slot_list_append PySem.F.type_list_append mt_append (pv 11)
            (pa_cons (pe_tup (pa_cons (pe_op op_add (pv 6) (pe_ix ix_tup (pe_ix ix_list (pv 2) (pv 8) (fun _ _ => rfl)) pe_int (fun _ _ => rfl))) (pa_cons (pv 8) (pa_cons (pv 9) pa_nil)))) pa_nil)))) pss_nil)
        (pss_one (ps_if (PW.pt (pw_and (pt_cmpR (op_neD hr.units) (pe_lc (own := [("k", 13)]) (g := gName 13) (tt := tTest (tOp rGt (tOp (rIxL K) (tVar 3) (tVar 13)) (tOp (rIxT K) (tOp (rIxL K) (tVar 1) (tVar 13)) (tC (.int 1))))) (te := tVar 13) rfl scEmp.nd
            (pi_range1 (by rfl) B.range (pa_cons (pe_callB call_len_seq (by rfl) B.len PySem.boot_len (pa_cons (pv 1) pa_nil)) pa_nil)) (blkOk_by (N := nEmp) (sc := defScope sEmp) (by decide +kernel))
            (fun _ _ _ _ _ => pg_name (i := 13) scEmp.nd rfl (Or.inl rfl)) (fun _ _ _ _ _ => pts_one (pt_cmpR op_gt (pe_ix ix_list (pv 3) (pv 13) (fun _ _ => rfl)) (pe_ix ix_tup (pe_ix ix_list (pv 1) (pv 13) (fun _ _ => rfl)) pe_int (fun _ _ => rfl)) (nomark _))) (fun _ _ _ _ _ => pv 13))
            (pe_lst pa_nil) (nomark _)) (pw_and1 (pt_not (pt_val (pe_df dR hr (by decide) rfl pass0 (pa_cons (pv 0) (pa_cons (pv 6) (pa_cons (pv 11) pa_nil)))))))))
          (pss_one ps_never) pss_nil)))))))
      (pss_cons (ps_if (pt_cmpR op_gt (pv 9) pe_int (nomark _)) (pss_one (ps_expr (pe_bm PySem.F.plainAttrs_list PySem.F.slot_list_append PySem.F.type_list_append mt_append (pv 7)
            (pa_cons (pe_tup (pa_cons (pe_op op_add (pv 6) (pe_ix ix_tup (pe_ix ix_list (pv 2) (pv 8) (fun _ _ => rfl)) pe_int (fun _ _ => rfl))) (pa_cons (pv 8) (pa_cons (pv 9) pa_nil)))) pa_nil)))) pss_nil)
      (pss_one (ps_ret pe_bl))))), ?_⟩
    obtain ⟨ps, q1, q2, q3⟩ := id hP
    obtain ⟨xs, hv, hl, hx⟩ := id hV
    have hst := (yo.ends i hi).1
    -- the place of the first pipe from there
    refine ⟨_, rfl, lp, rfl, ⟨_, SqL.of q1⟩, fun D hD => lc_list (K := K) (a := lp) (xs := ps) (fun j H' => Same H H' ∧ H' D = some (.lst (lsI j fun j => ((Y.pipe j).s : Int)))) ⟨same_upd hD, upd_same⟩ (fun j H' _ z => SqL.of (z.1 _ _ q1)) ?_ ?_⟩
    · rintro j x H' hj ⟨sm, hd⟩
      have hjm : j < Y.m := by
        have z := (List.getElem?_eq_some_iff.mp hj).1
        omega
      obtain ⟨a, g, e1, e2, e3⟩ := q3 j hjm
      rw [e1] at hj
      cases hj
      refine ⟨rfl, ?_⟩
      refine iteT (B := True) ⟨_, rfl, a, _, _, _, rfl, rfl, SqT.of (sm _ _ e2), at_of (j := 0) rfl rfl, _, hd, ?_, fun b o e => ?_, ?_⟩
      · rw [lsI_len]
        have z2 := yo.m
        exact small1000 (by omega)
      · rw [upd_ne (ne_of_none e hD)]
        exact sm _ _ e
      · rw [upd_same, lsI_snoc]
    rintro G ⟨s0, hd⟩
    rw [q2] at hd
    refine ⟨.inl ⟨rfl, _, SqL.of hd⟩, _, rfl, D, _, _, i, _, rfl, rfl, SqL.of hd, rfl, ?_, lsI_get _ hi, ?_, ?_, ?_⟩
    · refine List.all_eq_true.mpr fun v hv => ?_
      obtain ⟨j, _, rfl⟩ := List.mem_map.mp hv
      rfl
    · exact beq_self_eq_true _
    · intro m z' hm hz
      rw [lsI_get _ (by omega)] at hz
      cases hz
      refine beq_eq_false_iff_ne.mpr fun z => hfi m hm ?_
      omega
    -- the parts
    refine ⟨_, rfl, pr, rfl, ⟨_, SqL.of (s0 _ _ hpr)⟩, for_list (K := K) (a := pr) (xs := pt.map V.int) (fun j σ H' => ∃ (v10 v11 : Option V), σ = [some (.ref p), some (.ref lv), some (.ref lp), some (.ref lh), some (.int ((Y.pipe i).s : Int)), some (.ref pr), some (.int (S.t : Int)), some (.ref wy), some (.int (i : Int)), some (.int (pt.take j).sum), v10, v11, none, none] ∧
      PlayAt C Y H' O p (letS Y S i (pt.take j).sum S.com 0) ∧ H' lh = some (.lst (lsI Y.n (letS Y S i (pt.take j).sum S.com 0).held)) ∧ ∀ b o, H b = some o → b ≠ lh → (O b → ∃ ys, o = .tup ys) → H' b = some o) ?_ ?_ ?_ ?_⟩
    · have e0 : letS Y S i (pt.take 0).sum S.com 0 = S := letS_zero (x := 0) (by rw [tail_neg (by decide)]; exact (List.append_nil _).symm)
      refine ⟨none, none, rfl, ?_, ?_, fun b o e _ _ => s0 _ _ e⟩
      · rw [e0]
        exact hp.same s0
      · rw [e0]
        exact s0 _ _ hh
    · rintro j σ H' _ ⟨v10, v11, rfl, _, _, k1⟩
      exact SqL.of (k1 _ _ hpr nrh fun z => absurd z npr)
    · rintro j y σ H' hj ⟨v10, v11, rfl, hp1, hh1, k1⟩
      obtain ⟨a, ha, rfl⟩ := ints_at hj
      have ha0 := hpt a (List.mem_of_getElem? ha)
      have hsum := sum_take_succ ha
      obtain ⟨t0, t1⟩ := sum_take_le hpt j
      obtain ⟨t2, t3⟩ := sum_take_le hpt (j + 1)
      generalize hxe : (pt.take j).sum = x at hp1 hh1 hsum t0 t1
      have hV1 : VatsAt H' lv Y.n Y.room fl := hV.keep (fun o e => k1 _ _ e nvh fun z => absurd z nlv) fun b ys e => k1 _ _ e (ne_of e hh (by intro z; cases z)) fun _ => ⟨ys, rfl⟩
      have eh : (letS Y S i x S.com 0).held (Y.pipe i).s = S.held (Y.pipe i).s - x := if_pos rfl
      have eu : (letS Y S i x S.com 0).used i = S.used i + x := if_pos rfl
      -- the part is let on
      refine ⟨_, rfl, _, rfl, _, rfl, _, rfl, _, rfl, _, rfl, O, p, lv, lh, letS Y S i x S.com 0, fl, i, a, S.com, x, rfl, hp1, yo, hV1, nlv, hh1, nlh, nvh, hi, ha0, by omega, by omega, ?_, t0, hk, by omega, fun H2 hp2 hh2 k2 => ?_⟩
      · show S.com ++ tail (S.t + (Y.pipe i).len, i) (0 + x) = S.com ++ tail (S.t + (Y.pipe i).len, i) x
        rw [Int.zero_add]
      rw [letS_add] at hp2 hh2
      refine ⟨true, rfl, iteF (A := True) ?_⟩
      rw [hsum] at t2 t3
      have k12 : ∀ b o, H b = some o → b ≠ lh → (O b → ∃ ys, o = .tup ys) → H2 b = some o := fun b o e n z => k2 b o (k1 b o e n z) n z
      have tp2 : ∀ b ys, H b = some (.tup ys) → H2 b = some (.tup ys) := fun b ys e => k12 b _ e (ne_of e hh (by intro z; cases z)) fun _ => ⟨ys, rfl⟩
      have w2 := k12 _ _ hwy nwh fun z => absurd z nwy
      have v2 := k12 _ _ hv nvh fun z => absurd z nlv
      have p2 := k12 _ _ q1 nph fun z => absurd z nlp
      -- the sum so far, a copy of the way
      refine ⟨_, rfl, _, rfl, _, _, rfl, rfl, _, rfl, wy, _, rfl, .inl (SqL.of w2), fun l fl1 => ?_⟩
      have sl := same_upd (o := .lst zs) fl1
      have l3 : upd H2 l (.lst zs) l = some (.lst zs) := upd_same
      generalize upd H2 l (.lst zs) = H3 at sl l3 ⊢
      have htz : Tris H3 zs S.com := ht.keep fun b ys e => sl _ _ (tp2 b ys e)
      refine ⟨fun σ' H4 => ∃ zs', σ' = [some (.ref p), some (.ref lv), some (.ref lp), some (.ref lh), some (.int ((Y.pipe i).s : Int)), some (.ref pr), some (.int (S.t : Int)), some (.ref wy), some (.int (i : Int)), some (.int (x + a)), some (.int a), some (.ref l), none, none] ∧
        Same H2 H4 ∧ H4 l = some (.lst zs') ∧ Tris H4 zs' (S.com ++ tail (S.t + (Y.pipe i).len, i) (x + a)), ?_, ?_⟩
      · refine ⟨_, rfl, _, _, rfl, rfl, _, rfl, ite2D (fun hc => ?_) (fun hc => ?_)⟩
        · obtain ⟨pa, pg, e1, e2, e3⟩ := q3 i hi
          refine ⟨_, rfl, .inl ⟨rfl, _, SqL.of l3⟩, _, rfl, _, rfl, _, rfl, lp, _, _, _, rfl, rfl, SqL.of (sl _ _ p2), atI_nat e1, pa, _, _, _, rfl, rfl, SqT.of (sl _ _ (tp2 _ _ e2)), at_of (j := 2) rfl rfl, _, _, rfl, rfl, _, rfl, _, rfl, (by show 3 ≤ sizeLine; decide), fun t ft => ?_⟩
          have st := same_upd (o := .tup [V.int ((S.t : Int) + ((Y.pipe i).len : Int)), V.int (i : Int), V.int (x + a)]) ft
          refine ⟨l, zs, _, rfl, rfl, st _ _ l3, ?_, zs ++ [V.ref t], rfl, fun b o e => ?_, upd_same, ?_⟩
          · rw [tris_len htz]
            exact small1000 (by omega)
          · rw [upd_ne (ne_of_none e fl1)]
            exact st _ _ (sl _ _ e)
          · rw [tail_pos hc]
            have tt : ∀ b us, upd H3 t (.tup [V.int ((S.t : Int) + ((Y.pipe i).len : Int)), V.int (i : Int), V.int (x + a)]) b = some (.tup us) → upd (upd H3 t (.tup [V.int ((S.t : Int) + ((Y.pipe i).len : Int)), V.int (i : Int), V.int (x + a)])) l (.lst (zs ++ [V.ref t])) b = some (.tup us) := fun b us e => by
              rw [upd_ne (ne_of e (st _ _ l3) (by intro z; cases z))]
              exact e
            refine Paired.snoc ((htz.same st).keep tt) ⟨t, rfl, ?_⟩
            refine tt _ _ (upd_same.trans ?_)
            rw [← Int.natCast_add]
            rfl
        · refine ⟨zs, rfl, sl, l3, ?_⟩
          rw [tail_neg hc, List.append_nil]
          exact htz
      rintro σ' H4 ⟨zs', rfl, s4, l4, t4⟩
      have hp4 := hp2.same s4
      have hh4 := s4 _ _ hh2
      have v4 := s4 _ _ v2
      have k14 : ∀ b o, H b = some o → b ≠ lh → (O b → ∃ ys, o = .tup ys) → H4 b = some o := fun b o e n z => s4 _ _ (k12 b o e n z)
      -- where it is still full it is refused
      refine ⟨_, rfl, lv, _, rfl, .inl (SqL.of v4), _, rfl, by omega, ?_, fun D2 hD2 => lc_range (lo := 0) (n := xs.length) (fun m H' => Same H4 H' ∧ H' D2 = some (.lst (natsV ((List.range m).filter fun u => decide (Y.room u < (letS Y S i (x + a) S.com 0).held u))))) ⟨same_upd hD2, upd_same⟩ ?_ ?_⟩
      · have z := yo.n
        omega
      · rintro m H' hm ⟨sm, hd'⟩
        have hmn : m < Y.n := by omega
        have e0 : (0 : Int) + (m : Int) = (m : Int) := by omega
        obtain ⟨va, nm, e1, e2⟩ := hx m hmn
        refine ⟨rfl, ?_⟩
        refine ⟨_, rfl, _, rfl, lh, _, _, _, rfl, rfl, SqL.of (sm _ _ hh4), at_of (j := m) e0 (lsI_get _ hmn), _, rfl, _, rfl, lv, _, _, _, rfl, rfl, SqL.of (sm _ _ v4), at_of (j := m) e0 e1, va, _, _, _, rfl, rfl, SqT.of (sm _ _ (s4 _ _ (tp2 _ _ e2))), at_of (j := 1) rfl rfl, _, _, rfl, rfl, _, rfl, ?_⟩
        have es := full_snoc (fun u => decide (Y.room u < (letS Y S i (x + a) S.com 0).held u)) m
        refine ite2D (fun hc => ?_) (fun hc => ?_)
        · rw [if_pos (decide_eq_true hc)] at es
          refine ⟨_, rfl, _, hd', ?_, fun b o e => ?_, ?_⟩
          · rw [natsV_len]
            have z := filter_le (fun u => decide (Y.room u < (letS Y S i (x + a) S.com 0).held u)) m
            have z2 := yo.n
            exact Nat.lt_of_le_of_lt z (small1000 (by omega))
          · rw [upd_ne (ne_of_none e hD2)]
            exact sm _ _ e
          · rw [upd_same, es, natsV_snoc, e0]
        · rw [if_neg (by rw [decide_eq_false hc]; exact Bool.false_ne_true)] at es
          exact ⟨sm, by rw [es]; exact hd'⟩
      rintro H5 ⟨s5, hd5⟩
      rw [hl, natsV_ints] at hd5
      refine ⟨(by show 0 ≤ sizeLine; decide), fun z fz => ?_⟩
      have s6 := same_upd (o := .lst []) fz
      have fin : ∀ H6, Same H4 H6 → ∃ (v10 v11 : Option V), [some (.ref p), some (.ref lv), some (.ref lp), some (.ref lh), some (.int ((Y.pipe i).s : Int)), some (.ref pr), some (.int (S.t : Int)), some (.ref wy), some (.int (i : Int)), some (.int (x + a)), some (.int a), some (.ref l), none, none] = [some (.ref p), some (.ref lv), some (.ref lp), some (.ref lh), some (.int ((Y.pipe i).s : Int)), some (.ref pr), some (.int (S.t : Int)), some (.ref wy), some (.int (i : Int)), some (.int (pt.take (j + 1)).sum), v10, v11, none, none] ∧
        PlayAt C Y H6 O p (letS Y S i (pt.take (j + 1)).sum S.com 0) ∧ H6 lh = some (.lst (lsI Y.n (letS Y S i (pt.take (j + 1)).sum S.com 0).held)) ∧ ∀ b o, H b = some o → b ≠ lh → (O b → ∃ ys, o = .tup ys) → H6 b = some o := fun H6 sm => by
        rw [hsum]
        exact ⟨_, _, rfl, hp4.same sm, sm _ _ hh4, fun b o e n z => sm _ _ (k14 b o e n z)⟩
      refine ⟨_, _, .lst (SqL.of (s6 _ _ hd5)) (dp_ints _), .lst (SqL.of upd_same) .nil, shaped_ints _, shaped_ints [], _, rfl, ?_⟩
      rw [eqv_nil]
      have s56 := s5.trans s6
      generalize upd H5 z (.lst []) = H6 at s6 s56 ⊢
      have ef : ((List.range Y.n).filter fun u => decide (Y.room u < (letS Y S i (x + a) S.com 0).held u)) = fullL Y (letS Y S i (x + a) S.com 0).held := rfl
      rw [ef]
      by_cases hf : fullL Y (letS Y S i (x + a) S.com 0).held = []
      · rw [hf]
        exact fin H6 s56
      have e : ((fullL Y (letS Y S i (x + a) S.com 0).held).map fun (i : Nat) => (i : Int)).isEmpty = false := by
        cases e : fullL Y (letS Y S i (x + a) S.com 0).held with
        | nil => exact absurd e hf
        | cons x r => rfl
      rw [e]
      have ec : (letS Y S i (x + a) S.com 0).com = S.com ++ tail (S.t + (Y.pipe i).len, i) (x + a) := by
        show S.com ++ tail (S.t + (Y.pipe i).len, i) (0 + (x + a)) = _
        rw [Int.zero_add]
      refine ⟨_, rfl, _, rfl, _, rfl, O, p, l, letS Y S i (x + a) S.com 0, zs', rfl, hp4.same s56, yo, hf, s56 _ _ l4, ?_, ?_, ?_, fun H7 s7 => ⟨true, rfl, fin H7 (s56.trans s7)⟩⟩
      · rw [ec]
        exact t4.same s56
      · rw [ec]
        intro e he
        rcases (List.mem_append).mp he with h1 | h1
        · exact hbd e h1
        · exact bd_tail (k := (S.t + (Y.pipe i).len, i)) (x := x + a) (y := pt.sum) hbt t2 t3 e h1
      · rw [ec, List.length_append]
        have z := tail_len (S.t + (Y.pipe i).len, i) (x + a)
        omega
    · rintro σ H' ⟨v10, v11, rfl, hp1, hh1, k1⟩
      rw [List.length_map, List.take_length] at hp1 hh1
      have esum : (pt.take (pt.map V.int).length).sum = pt.sum := by rw [List.length_map, List.take_length]
      have tp1 : ∀ b ys, H b = some (.tup ys) → H' b = some (.tup ys) := fun b ys e => k1 b _ e (ne_of e hh (by intro z; cases z)) fun _ => ⟨ys, rfl⟩
      have w1 := k1 _ _ hwy nwh fun z => absurd z nwy
      have p1 := k1 _ _ q1 nph fun z => absurd z nlp
      have htz : Tris H' zs S.com := ht.keep tp1
      have ec : (letS Y S i pt.sum S.com 0).com = S.com ++ tail (S.t + (Y.pipe i).len, i) pt.sum := by
        show S.com ++ tail (S.t + (Y.pipe i).len, i) (0 + pt.sum) = _
        rw [Int.zero_add]
      rw [esum]
      refine ⟨_, rfl, _, _, rfl, rfl, _, rfl, ite2D (fun hc => ?_) (fun hc => ?_)⟩
      · obtain ⟨pa, pg, e1, e2, e3⟩ := q3 i hi
        refine ⟨_, rfl, .inl ⟨rfl, _, SqL.of w1⟩, _, rfl, _, rfl, _, rfl, lp, _, _, _, rfl, rfl, SqL.of p1, atI_nat e1, pa, _, _, _, rfl, rfl, SqT.of (tp1 _ _ e2), at_of (j := 2) rfl rfl, _, _, rfl, rfl, _, rfl, _, rfl, (by show 3 ≤ sizeLine; decide), fun t ft => ?_⟩
        have st := same_upd (o := .tup [V.int ((S.t : Int) + ((Y.pipe i).len : Int)), V.int (i : Int), V.int pt.sum]) ft
        refine ⟨wy, zs, _, rfl, rfl, st _ _ w1, ?_, ?_⟩
        · rw [tris_len htz]
          exact small1000 (by omega)
        have kk : ∀ b o, H' b = some o → b ≠ wy → upd (upd H' t (.tup [V.int ((S.t : Int) + ((Y.pipe i).len : Int)), V.int (i : Int), V.int pt.sum])) wy (.lst (zs ++ [V.ref t])) b = some o := fun b o e n => by
          rw [upd_ne n]
          exact st _ _ e
        have tt : ∀ b us, upd H' t (.tup [V.int ((S.t : Int) + ((Y.pipe i).len : Int)), V.int (i : Int), V.int pt.sum]) b = some (.tup us) → upd (upd H' t (.tup [V.int ((S.t : Int) + ((Y.pipe i).len : Int)), V.int (i : Int), V.int pt.sum])) wy (.lst (zs ++ [V.ref t])) b = some (.tup us) := fun b us e => by
          rw [upd_ne (ne_of e (st _ _ w1) (by intro z; cases z))]
          exact e
        refine q _ (zs ++ [V.ref t]) (hp1.keep fun b o e z => ?_) (kk _ _ hh1 (Ne.symm nwh)) upd_same ?_ fun b o e n1 n2 z => kk b o (k1 b o e n1 z) n2
        · rcases z with z | ⟨ys, rfl⟩
          · exact kk b o e fun w => nwy (by rw [← w]; exact z)
          · exact tt b ys (st _ _ e)
        · rw [ec, tail_pos hc]
          refine Paired.snoc ((htz.same st).keep tt) ⟨t, rfl, ?_⟩
          refine tt _ _ (upd_same.trans ?_)
          rw [← Int.natCast_add]
          rfl
      · refine q _ zs hp1 hh1 w1 ?_ fun b o e n1 n2 z => k1 b o e n1 z
        rw [ec, tail_neg hc, List.append_nil]
        exact htz
end
end Vy

/-! VyMath: the scenario in plain words: what arrives, when it is full. -/
namespace Vy
open PyProof.Rows PySem PySem.Spec L2
/-- what has come to v by the moment t -/
def got (Y : Yd) (t v : Nat) (l : List (Nat × Nat × Int)) : Int := (l.map fun e => if e.1 ≤ t ∧ (Y.pipe e.2.1).g = v then e.2.2 else 0).sum
theorem got_app (Y : Yd) (t v : Nat) (l m : List (Nat × Nat × Int)) : got Y t v (l ++ m) = got Y t v l + got Y t v m := by
  unfold got
  rw [List.map_append, List.sum_append]
theorem got_tail (Y : Yd) (t v : Nat) (k : Nat × Nat) {x : Int} (h : 0 ≤ x) : got Y t v (tail k x) = if k.1 ≤ t ∧ (Y.pipe k.2).g = v then x else 0 := by
  unfold tail
  split
  · show (if k.1 ≤ t ∧ (Y.pipe k.2).g = v then x else 0) + 0 = _
    rw [Int.add_zero]
  · have e : x = 0 := by omega
    rw [e]
    show (0 : Int) = _
    split <;> rfl
theorem got_before (Y : Yd) (t v : Nat) : ∀ l : List (Nat × Nat × Int), (∀ e, e ∈ l → t < e.1) → got Y t v l = 0
  | [], _ => rfl
  | e :: r, h => by
    show (if e.1 ≤ t ∧ (Y.pipe e.2.1).g = v then e.2.2 else 0) + got Y t v r = 0
    have h1 := h e (List.mem_cons_self ..)
    rw [if_neg (by omega), got_before Y t v r fun x hx => h x (List.mem_cons_of_mem _ hx)]
    rfl
theorem gain_got (Y : Yd) (t v : Nat) : ∀ l : List (Nat × Nat × Int), got Y t v l + gain Y (t + 1) v (l.filter fun e => decide (t < e.1)) = got Y (t + 1) v l
  | [] => rfl
  | e :: r => by
    have ih := gain_got Y t v r
    show (if e.1 ≤ t ∧ (Y.pipe e.2.1).g = v then e.2.2 else 0) + got Y t v r + gain Y (t + 1) v ((e :: r).filter fun e => decide (t < e.1)) = (if e.1 ≤ t + 1 ∧ (Y.pipe e.2.1).g = v then e.2.2 else 0) + got Y (t + 1) v r
    rw [List.filter_cons]
    by_cases h : t < e.1
    · rw [if_pos (show decide (t < e.1) = true from decide_eq_true h)]
      show _ + _ + ((if e.1 = t + 1 ∧ (Y.pipe e.2.1).g = v then e.2.2 else 0) + gain Y (t + 1) v (r.filter fun e => decide (t < e.1))) = _
      have e1 : ¬ (e.1 ≤ t ∧ (Y.pipe e.2.1).g = v) := by omega
      rw [if_neg e1]
      by_cases h2 : e.1 = t + 1 ∧ (Y.pipe e.2.1).g = v
      · rw [if_pos h2, if_pos ⟨by omega, h2.2⟩]
        omega
      · rw [if_neg h2, if_neg (by omega)]
        omega
    · rw [if_neg (show ¬ (decide (t < e.1) = true) by rw [decide_eq_false h]; exact Bool.false_ne_true)]
      by_cases h2 : (Y.pipe e.2.1).g = v
      · rw [if_pos ⟨by omega, h2⟩, if_pos ⟨by omega, h2⟩]
        omega
      · rw [if_neg fun z => h2 z.2, if_neg fun z => h2 z.2]
        omega
theorem goN_com (Y : Yd) (S : PS) (h : ∀ e, e ∈ S.com → S.t < e.1) : ∀ n, (goN Y n S).com = S.com.filter fun e => decide (S.t + n < e.1)
  | 0 => (List.filter_eq_self.mpr fun e he => decide_eq_true (h e he)).symm
  | n + 1 => by
    show ((goN Y n S).com.filter fun e => decide (e.1 ≠ (goN Y n S).t + 1)) = _
    rw [goN_com Y S h n, goN_t, List.filter_filter]
    refine List.filter_congr fun e _ => ?_
    rw [← Bool.decide_and]
    refine decide_eq_decide.mpr ?_
    omega
theorem goN_held (Y : Yd) (S : PS) (h : ∀ e, e ∈ S.com → S.t < e.1) (v : Nat) : ∀ n, (goN Y n S).held v = S.held v + got Y (S.t + n) v S.com
  | 0 => by
    show S.held v = S.held v + got Y S.t v S.com
    rw [got_before Y S.t v S.com h]
    omega
  | n + 1 => by
    show (goN Y n S).held v + gain Y ((goN Y n S).t + 1) v (goN Y n S).com = _
    rw [goN_held Y S h v n, goN_t, goN_com Y S h, ← Nat.add_assoc, ← gain_got]
    omega
theorem goN_used (Y : Yd) (S : PS) (n i : Nat) (h : 1 ≤ n) : (goN Y n S).used i = 0 := by
  cases n with
  | zero => omega
  | succ n => rfl
theorem full_nil {Y : Yd} {h : Nat → Int} (hh : ∀ v, v < Y.n → h v ≤ Y.room v) : fullL Y h = [] := by
  refine List.filter_eq_nil_iff.mpr fun v hv => ?_
  have z := hh v (List.mem_range.mp hv)
  rw [decide_eq_false <| by omega]
  exact Bool.false_ne_true
/-- the pipe that stood at j ahead of the turn -/
def pj (tn j : Nat) : Nat := (j + 4 - tn) % 4
theorem pj_lt (tn j : Nat) : pj tn j < 4 := Nat.mod_lt _ (by decide)
theorem pj_at {tn j : Nat} (h : tn < 4) (hj : j < 4) : (pj tn j + tn) % 4 = j := by
  unfold pj
  omega
theorem pj_is {tn i : Nat} (h : tn < 4) (hi : i < 4) : pj tn ((i + tn) % 4) = i := by
  unfold pj
  omega
theorem pj_ne {tn j k : Nat} (h : tn < 4) (hj : j < 4) (hk : k < 4) (n : j ≠ k) : pj tn j ≠ pj tn k := by
  unfold pj
  omega
/-- the yard that the law lays -/
structure Lay (Y : Yd) (sp ln : Nat → Nat) (L : Nat) (pr : Int) (tn : Nat) : Prop where
  n4 : 4 ≤ Y.n
  n12 : Y.n ≤ 12
  inj : Inj Y.n sp
  vs : VatSpec Y.n sp Y.room Y.fill
  m : Y.m = 4
  t4 : tn < 4
  pipe : ∀ i, Y.pipe i = P4 sp ln pr ((i + tn) % 4)
  l0 : ln 0 = L
  l1 : ln 1 = L
  L1 : 1 ≤ L
  L20 : L ≤ 20
  l2 : 1 ≤ ln 2 ∧ ln 2 ≤ 20
  l3 : 1 ≤ ln 3 ∧ ln 3 ≤ 20
section
variable {Y : Yd} {sp ln : Nat → Nat} {L tn : Nat} {pr : Int}
theorem Lay.lt (y : Lay Y sp ln L pr tn) {j : Nat} (hj : j < 4) : sp j < Y.n := y.inj.lt j (by have z := y.n4; omega)
theorem Lay.ne (y : Lay Y sp ln L pr tn) {i j : Nat} (hi : i < 4) (hj : j < 4) (n : i ≠ j) : sp i ≠ sp j := fun e => n (y.inj.inj i j (by have z := y.n4; omega) (by have z := y.n4; omega) e)
theorem Lay.p0 (y : Lay Y sp ln L pr tn) : Y.pipe (pj tn 0) = ⟨sp 0, sp 2, L, pr⟩ := by rw [y.pipe, pj_at y.t4 (by decide), ← y.l0]; rfl
theorem Lay.p1 (y : Lay Y sp ln L pr tn) : Y.pipe (pj tn 1) = ⟨sp 0, sp 3, L, pr⟩ := by rw [y.pipe, pj_at y.t4 (by decide), ← y.l1]; rfl
theorem Lay.p2 (y : Lay Y sp ln L pr tn) : Y.pipe (pj tn 2) = ⟨sp 2, sp 1, ln 2, pr⟩ := by rw [y.pipe, pj_at y.t4 (by decide)]; rfl
theorem Lay.p3 (y : Lay Y sp ln L pr tn) : Y.pipe (pj tn 3) = ⟨sp 3, sp 1, ln 3, 0⟩ := by rw [y.pipe, pj_at y.t4 (by decide)]; rfl
theorem Lay.at_ (y : Lay Y sp ln L pr tn) {i : Nat} (hi : i < 4) : i = pj tn 0 ∨ i = pj tn 1 ∨ i = pj tn 2 ∨ i = pj tn 3 := by
  have z := y.t4
  unfold pj
  omega
theorem Lay.yok (y : Lay Y sp ln L pr tn) : YOk Y := by
  refine ⟨by have z := y.n12; omega, by have z := y.m; omega, fun i hi => ?_⟩
  have hi4 : i < 4 := by have z := y.m; omega
  rcases y.at_ hi4 with rfl | rfl | rfl | rfl
  · rw [y.p0]; exact ⟨y.lt (by decide), y.lt (by decide)⟩
  · rw [y.p1]; exact ⟨y.lt (by decide), y.lt (by decide)⟩
  · rw [y.p2]; exact ⟨y.lt (by decide), y.lt (by decide)⟩
  · rw [y.p3]; exact ⟨y.lt (by decide), y.lt (by decide)⟩
/-- the first pipe with this goal, with this start -/
theorem Lay.g2 (y : Lay Y sp ln L pr tn) {i : Nat} (hi : i < 4) (n : i ≠ pj tn 0) : (Y.pipe i).g ≠ sp 2 := by
  rcases y.at_ hi with rfl | rfl | rfl | rfl
  · exact absurd rfl n
  · rw [y.p1]; exact y.ne (by decide) (by decide) (by decide)
  · rw [y.p2]; exact y.ne (by decide) (by decide) (by decide)
  · rw [y.p3]; exact y.ne (by decide) (by decide) (by decide)
theorem Lay.g3 (y : Lay Y sp ln L pr tn) {i : Nat} (hi : i < 4) (n : i ≠ pj tn 1) : (Y.pipe i).g ≠ sp 3 := by
  rcases y.at_ hi with rfl | rfl | rfl | rfl
  · rw [y.p0]; exact y.ne (by decide) (by decide) (by decide)
  · exact absurd rfl n
  · rw [y.p2]; exact y.ne (by decide) (by decide) (by decide)
  · rw [y.p3]; exact y.ne (by decide) (by decide) (by decide)
theorem Lay.s2 (y : Lay Y sp ln L pr tn) {i : Nat} (hi : i < 4) (n : i ≠ pj tn 2) : (Y.pipe i).s ≠ sp 2 := by
  rcases y.at_ hi with rfl | rfl | rfl | rfl
  · rw [y.p0]; exact y.ne (by decide) (by decide) (by decide)
  · rw [y.p1]; exact y.ne (by decide) (by decide) (by decide)
  · exact absurd rfl n
  · rw [y.p3]; exact y.ne (by decide) (by decide) (by decide)
theorem Lay.s3 (y : Lay Y sp ln L pr tn) {i : Nat} (hi : i < 4) (n : i ≠ pj tn 3) : (Y.pipe i).s ≠ sp 3 := by
  rcases y.at_ hi with rfl | rfl | rfl | rfl
  · rw [y.p0]; exact y.ne (by decide) (by decide) (by decide)
  · rw [y.p1]; exact y.ne (by decide) (by decide) (by decide)
  · rw [y.p2]; exact y.ne (by decide) (by decide) (by decide)
  · exact absurd rfl n
theorem Lay.fits (y : Lay Y sp ln L pr tn) {v : Nat} (hv : v < Y.n) : Y.fill v ≤ Y.room v := by
  have r0 := y.vs.r0
  have f0 := y.vs.f0
  have r1 := y.vs.r1
  have f1 := y.vs.f1
  by_cases e0 : v = sp 0
  · rw [e0, r0, f0]
    exact Int.le_refl _
  by_cases e1 : v = sp 1
  · rw [e1, r1, f1]
    decide
  by_cases e2 : v = sp 2
  · rw [e2]
    exact (y.vs.mid 0 (by decide)).2.1
  by_cases e3 : v = sp 3
  · rw [e3]
    exact (y.vs.mid 1 (by decide)).2.1
  obtain ⟨h1, h2⟩ := y.vs.rest v hv e0 e1 e2 e3
  rw [h2]
  exact h1
end
end Vy

/-! VyMathB: the law's own play, state by state. -/
namespace Vy
open PyProof.Rows PySem PySem.Spec L2
theorem tail_mem {k : Nat × Nat} {x : Int} {e : Nat × Nat × Int} (h : e ∈ tail k x) : e = (k.1, k.2, x) := by
  unfold tail at h
  split at h
  · exact List.mem_singleton.mp h
  · exact absurd h List.not_mem_nil
theorem tail_ky {k q : Nat × Nat} {x : Int} (h : q ∈ (tail k x).map ky) : q = k := by
  obtain ⟨e, he, rfl⟩ := List.mem_map.mp h
  rw [tail_mem he]
theorem tail_nil {k : Nat × Nat} : tail k 0 = [] := if_neg (by decide)
/-- let into a pipe into which nothing was let yet -/
def lt (Y : Yd) (S : PS) (i : Nat) (a : Int) : PS := letS Y S i a S.com 0
theorem lt_com (Y : Yd) (S : PS) (i : Nat) (a : Int) : (lt Y S i a).com = S.com ++ tail (S.t + (Y.pipe i).len, i) a := by
  show S.com ++ tail (S.t + (Y.pipe i).len, i) (0 + a) = _
  rw [Int.zero_add]
theorem lt_held (Y : Yd) (S : PS) (i : Nat) (a : Int) (v : Nat) : (lt Y S i a).held v = if v = (Y.pipe i).s then S.held (Y.pipe i).s - a else S.held v := rfl
theorem lt_used (Y : Yd) (S : PS) (i : Nat) (a : Int) (v : Nat) : (lt Y S i a).used v = if v = i then S.used i + a else S.used v := rfl
theorem lt_zero (Y : Yd) (S : PS) (i : Nat) : lt Y S i 0 = S := letS_zero (by rw [tail_nil, List.append_nil])
/-- the start, what is let in -/
def St0 (Y : Yd) : PS := ⟨0, Y.fill, fun _ => 0, []⟩
def St1 (Y : Yd) (tn : Nat) (A : Nat → Int) : PS := lt Y (lt Y (St0 Y) (pj tn 0) (A 0)) (pj tn 1) (A 1)
def put (A : Nat → Int) (k : Nat) (b : Int) : Nat → Int := fun j => if j = k then b else A j
theorem St1_put (Y : Yd) (tn : Nat) (A : Nat → Int) {k : Nat} (hk : k < 2) (b : Int) (h : ∀ j, k ≤ j → j < 2 → A j = 0) : lt Y (St1 Y tn A) (pj tn k) b = St1 Y tn (put A k b) := by
  have hk' : k = 0 ∨ k = 1 := by omega
  rcases hk' with rfl | rfl
  · unfold St1
    rw [h 0 (by decide) (by decide), h 1 (by decide) (by decide), lt_zero, lt_zero]
    show lt Y (St0 Y) (pj tn 0) b = lt Y (lt Y (St0 Y) (pj tn 0) b) (pj tn 1) (A 1)
    rw [h 1 (by decide) (by decide), lt_zero]
  · unfold St1
    rw [h 1 (by decide) (by decide), lt_zero]
    rfl
/-- what is let in, what is too much -/
structure Amt (Y : Yd) (sp : Nat → Nat) (A V : Nat → Int) : Prop where
  a0 : ∀ k, k < 2 → 0 ≤ A k
  a3 : ∀ k, k < 2 → A k ≤ 300000000000
  v0 : ∀ k, k < 2 → 0 ≤ V k
  v1 : ∀ k, k < 2 → V k ≤ 100000000000
  va : ∀ k, k < 2 → V k ≤ A k
  fit : ∀ k, k < 2 → Y.fill (sp (2 + k)) + A k - V k ≤ Y.room (sp (2 + k))
/-- what the vats hold when it has come -/
def cm (Y : Yd) (sp : Nat → Nat) (A : Nat → Int) (v : Nat) : Int := Y.fill v + (if v = sp 2 then A 0 else 0) + (if v = sp 3 then A 1 else 0)
section
variable {Y : Yd} {sp ln : Nat → Nat} {L tn : Nat} {pr : Int} {A V : Nat → Int}
theorem cm_put (y : Lay Y sp ln L pr tn) {k : Nat} (hk : k < 2) (b : Int) (h : A k = 0) (v : Nat) : (if v = sp (2 + k) then cm Y sp A (sp (2 + k)) + b else cm Y sp A v) = cm Y sp (put A k b) v := by
  have hk' : k = 0 ∨ k = 1 := by omega
  have n23 := y.ne (i := 2) (j := 3) (by decide) (by decide) (by decide)
  rcases hk' with rfl | rfl
  · show (if v = sp 2 then Y.fill (sp 2) + (if sp 2 = sp 2 then A 0 else 0) + (if sp 2 = sp 3 then A 1 else 0) + b else Y.fill v + (if v = sp 2 then A 0 else 0) + (if v = sp 3 then A 1 else 0)) = Y.fill v + (if v = sp 2 then b else 0) + (if v = sp 3 then A 1 else 0)
    by_cases e : v = sp 2
    · rw [if_pos e, if_pos e, if_pos rfl, if_neg n23, if_neg (by rw [e]; exact n23), h, e]
      omega
    · rw [if_neg e, if_neg e, if_neg e]
  · show (if v = sp 3 then Y.fill (sp 3) + (if sp 3 = sp 2 then A 0 else 0) + (if sp 3 = sp 3 then A 1 else 0) + b else Y.fill v + (if v = sp 2 then A 0 else 0) + (if v = sp 3 then A 1 else 0)) = Y.fill v + (if v = sp 2 then A 0 else 0) + (if v = sp 3 then b else 0)
    by_cases e : v = sp 3
    · rw [if_pos e, if_pos e, if_pos rfl, if_neg (Ne.symm n23), if_neg (by rw [e]; exact Ne.symm n23), h, e]
      omega
    · rw [if_neg e, if_neg e, if_neg e]
theorem St1_t : (St1 Y tn A).t = 0 := rfl
theorem St1_held (y : Lay Y sp ln L pr tn) (v : Nat) : (St1 Y tn A).held v = if v = sp 0 then Y.fill (sp 0) - A 0 - A 1 else Y.fill v := by
  unfold St1
  rw [lt_held, lt_held, lt_held, y.p0, y.p1]
  show (if v = sp 0 then (if sp 0 = sp 0 then Y.fill (sp 0) - A 0 else Y.fill (sp 0)) - A 1 else if v = sp 0 then Y.fill (sp 0) - A 0 else Y.fill v) = _
  rw [if_pos rfl]
  by_cases e : v = sp 0
  · rw [if_pos e, if_pos e]
  · rw [if_neg e, if_neg e, if_neg e]
theorem St1_com (y : Lay Y sp ln L pr tn) : (St1 Y tn A).com = tail (L, pj tn 0) (A 0) ++ tail (L, pj tn 1) (A 1) := by
  unfold St1
  rw [lt_com, lt_com, y.p0, y.p1]
  show [] ++ tail (0 + L, pj tn 0) (A 0) ++ tail (0 + L, pj tn 1) (A 1) = _
  rw [Nat.zero_add, List.nil_append]
theorem St1_used (y : Lay Y sp ln L pr tn) {k : Nat} (hk : k < 2) : (St1 Y tn A).used (pj tn k) = A k := by
  have hk' : k = 0 ∨ k = 1 := by omega
  have n := pj_ne (j := 0) (k := 1) y.t4 (by decide) (by decide) (by decide)
  rcases hk' with rfl | rfl
  · unfold St1
    rw [lt_used, if_neg n, lt_used, if_pos rfl]
    exact Int.zero_add _
  · unfold St1
    rw [lt_used, if_pos rfl, lt_used, if_neg (Ne.symm n)]
    exact Int.zero_add _
theorem St1_key (y : Lay Y sp ln L pr tn) {k : Nat} (hk : k < 2) (h : ∀ j, k ≤ j → j < 2 → A j = 0) : ¬ ((St1 Y tn A).t + (Y.pipe (pj tn k)).len, pj tn k) ∈ (St1 Y tn A).com.map ky := by
  have hk' : k = 0 ∨ k = 1 := by omega
  rw [St1_com y]
  rcases hk' with rfl | rfl
  · rw [h 0 (by decide) (by decide), h 1 (by decide) (by decide), tail_nil, tail_nil]
    exact List.not_mem_nil
  · rw [h 1 (by decide) (by decide), tail_nil, List.append_nil]
    intro z
    have z := congrArg Prod.snd (tail_ky z)
    exact pj_ne (j := 1) (k := 0) y.t4 (by decide) (by decide) (by decide) z
theorem two_len (k q : Nat × Nat) (x z : Int) : (tail k x ++ tail q z).length ≤ 2 := by
  rw [List.length_append]
  have h1 := tail_len k x
  have h2 := tail_len q z
  omega
theorem St1_later (y : Lay Y sp ln L pr tn) : ∀ e, e ∈ (St1 Y tn A).com → (St1 Y tn A).t < e.1 := by
  intro e he
  rw [St1_com y] at he
  have z := y.L1
  rw [St1_t]
  rcases List.mem_append.mp he with h | h
  · rw [tail_mem h]
    exact z
  · rw [tail_mem h]
    exact z
theorem St1_got (y : Lay Y sp ln L pr tn) (a : Amt Y sp A V) (t v : Nat) : got Y t v (St1 Y tn A).com = if L ≤ t then (if v = sp 2 then A 0 else 0) + (if v = sp 3 then A 1 else 0) else 0 := by
  rw [St1_com y, got_app, got_tail _ _ _ _ (a.a0 0 (by decide)), got_tail _ _ _ _ (a.a0 1 (by decide)), y.p0, y.p1]
  show (if L ≤ t ∧ sp 2 = v then A 0 else 0) + (if L ≤ t ∧ sp 3 = v then A 1 else 0) = _
  by_cases h : L ≤ t
  · rw [if_pos h]
    congr 1
    · by_cases e : v = sp 2
      · rw [if_pos ⟨h, e.symm⟩, if_pos e]
      · rw [if_neg fun z => e z.2.symm, if_neg e]
    · by_cases e : v = sp 3
      · rw [if_pos ⟨h, e.symm⟩, if_pos e]
      · rw [if_neg fun z => e z.2.symm, if_neg e]
  · rw [if_neg h, if_neg fun z => h z.1, if_neg fun z => h z.1]
    rfl
/-- nothing is full on the way -/
theorem St1_free (y : Lay Y sp ln L pr tn) (a : Amt Y sp A V) (j : Nat) (hj : j < L) : fullL Y (goN Y j (St1 Y tn A)).held = [] := by
  refine full_nil fun v hv => ?_
  rw [goN_held Y _ (St1_later y), St1_got y a, St1_t, Nat.zero_add, if_neg (by omega), St1_held y]
  have z := y.fits hv
  have a0 := a.a0 0 (by decide)
  have a1 := a.a0 1 (by decide)
  split
  · rename_i e
    rw [e] at z ⊢
    omega
  · omega
def St2 (Y : Yd) (tn L : Nat) (A : Nat → Int) : PS := goN Y L (St1 Y tn A)
theorem St2_t : (St2 Y tn L A).t = L := by
  unfold St2
  rw [goN_t, St1_t, Nat.zero_add]
theorem St2_com (y : Lay Y sp ln L pr tn) : (St2 Y tn L A).com = [] := by
  unfold St2
  rw [goN_com Y _ (St1_later y), St1_com y, St1_t, Nat.zero_add]
  refine List.filter_eq_nil_iff.mpr fun e he => ?_
  have h1 : e.1 = L := by
    rcases List.mem_append.mp he with h | h
    · rw [tail_mem h]
    · rw [tail_mem h]
  rw [decide_eq_false <| by omega]
  exact Bool.false_ne_true
theorem St2_used (y : Lay Y sp ln L pr tn) (i : Nat) : (St2 Y tn L A).used i = 0 := goN_used Y _ L i y.L1
theorem St2_held (y : Lay Y sp ln L pr tn) (a : Amt Y sp A V) (v : Nat) : (St2 Y tn L A).held v = if v = sp 0 then (St1 Y tn A).held (sp 0) else cm Y sp A v := by
  unfold St2
  rw [goN_held Y _ (St1_later y), St1_got y a, St1_t, Nat.zero_add, if_pos (Nat.le_refl _), St1_held y, St1_held y, if_pos rfl]
  have n02 := y.ne (i := 0) (j := 2) (by decide) (by decide) (by decide)
  have n03 := y.ne (i := 0) (j := 3) (by decide) (by decide) (by decide)
  by_cases e : v = sp 0
  · rw [if_pos e, if_pos e, if_neg (by rw [e]; exact n02), if_neg (by rw [e]; exact n03)]
    omega
  · rw [if_neg e, if_neg e]
    unfold cm
    omega
/-- what is too much let on -/
def St3 (Y : Yd) (tn L : Nat) (A V : Nat → Int) : PS := lt Y (St2 Y tn L A) (pj tn 2) (V 0)
def St4 (Y : Yd) (tn L : Nat) (A V : Nat → Int) : PS := lt Y (St3 Y tn L A V) (pj tn 3) (V 1)
theorem St3_t : (St3 Y tn L A V).t = L := St2_t
theorem St4_t : (St4 Y tn L A V).t = L := St2_t
theorem St3_com (y : Lay Y sp ln L pr tn) : (St3 Y tn L A V).com = tail (L + ln 2, pj tn 2) (V 0) := by
  unfold St3
  rw [lt_com, St2_com y, St2_t, y.p2]
  rfl
theorem St4_com (y : Lay Y sp ln L pr tn) : (St4 Y tn L A V).com = tail (L + ln 2, pj tn 2) (V 0) ++ tail (L + ln 3, pj tn 3) (V 1) := by
  unfold St4
  rw [lt_com, St3_com y, St3_t, y.p3]
theorem St3_used (y : Lay Y sp ln L pr tn) : (St3 Y tn L A V).used (pj tn 3) = 0 := by
  unfold St3
  rw [lt_used, if_neg (pj_ne y.t4 (by decide) (by decide) (by decide)), St2_used y]
theorem St3_key (y : Lay Y sp ln L pr tn) : ¬ ((St3 Y tn L A V).t + (Y.pipe (pj tn 3)).len, pj tn 3) ∈ (St3 Y tn L A V).com.map ky := by
  rw [St3_com y]
  intro z
  have z := congrArg Prod.snd (tail_ky z)
  exact pj_ne (j := 3) (k := 2) y.t4 (by decide) (by decide) (by decide) z
theorem St2_h2 (y : Lay Y sp ln L pr tn) (a : Amt Y sp A V) : (St2 Y tn L A).held (sp 2) = Y.fill (sp 2) + A 0 := by
  rw [St2_held y a, if_neg (y.ne (by decide) (by decide) (by decide))]
  unfold cm
  rw [if_pos rfl, if_neg (y.ne (by decide) (by decide) (by decide)), Int.add_zero]
theorem St2_h3 (y : Lay Y sp ln L pr tn) (a : Amt Y sp A V) : (St2 Y tn L A).held (sp 3) = Y.fill (sp 3) + A 1 := by
  rw [St2_held y a, if_neg (y.ne (by decide) (by decide) (by decide))]
  unfold cm
  rw [if_pos rfl, if_neg (y.ne (by decide) (by decide) (by decide)), Int.add_zero]
theorem St3_h3 (y : Lay Y sp ln L pr tn) (a : Amt Y sp A V) : (St3 Y tn L A V).held (sp 3) = Y.fill (sp 3) + A 1 := by
  unfold St3
  rw [lt_held, y.p2, if_neg (y.ne (by decide) (by decide) (by decide)), St2_h3 y a]
theorem St4_held (y : Lay Y sp ln L pr tn) (a : Amt Y sp A V) (v : Nat) : (St4 Y tn L A V).held v = (if v = sp 0 then Y.fill (sp 0) - A 0 - A 1 else cm Y sp A v) - (if v = sp 2 then V 0 else 0) - (if v = sp 3 then V 1 else 0) := by
  unfold St4
  rw [lt_held, y.p3]
  show (if v = sp 3 then (St3 Y tn L A V).held (sp 3) - V 1 else (St3 Y tn L A V).held v) = _
  have e2 : ∀ u, (St3 Y tn L A V).held u = if u = sp 2 then (St2 Y tn L A).held (sp 2) - V 0 else (St2 Y tn L A).held u := fun u => by
    unfold St3
    rw [lt_held, y.p2]
  have n23 := y.ne (i := 2) (j := 3) (by decide) (by decide) (by decide)
  have e3 := St2_held y a v
  rw [St1_held y, if_pos rfl] at e3
  rw [← e3]
  by_cases h3 : v = sp 3
  · rw [if_pos h3, if_pos h3, e2, if_neg (Ne.symm n23), if_neg (by rw [h3]; exact Ne.symm n23), h3]
    omega
  · rw [if_neg h3, if_neg h3, e2]
    by_cases h2 : v = sp 2
    · rw [if_pos h2, if_pos h2, h2]
      omega
    · rw [if_neg h2, if_neg h2]
      omega
theorem St4_later (y : Lay Y sp ln L pr tn) : ∀ e, e ∈ (St4 Y tn L A V).com → (St4 Y tn L A V).t < e.1 := by
  intro e he
  rw [St4_com y] at he
  have z2 := y.l2
  have z3 := y.l3
  rw [St4_t]
  rcases List.mem_append.mp he with h | h
  · rw [tail_mem h]
    show L < L + ln 2
    omega
  · rw [tail_mem h]
    show L < L + ln 3
    omega
theorem St4_got (y : Lay Y sp ln L pr tn) (a : Amt Y sp A V) (t v : Nat) : got Y t v (St4 Y tn L A V).com = (if L + ln 2 ≤ t ∧ sp 1 = v then V 0 else 0) + (if L + ln 3 ≤ t ∧ sp 1 = v then V 1 else 0) := by
  rw [St4_com y, got_app, got_tail _ _ _ _ (a.v0 0 (by decide)), got_tail _ _ _ _ (a.v0 1 (by decide)), y.p2, y.p3]
theorem St4_room (y : Lay Y sp ln L pr tn) (a : Amt Y sp A V) (v : Nat) (hv : v < Y.n) : (St4 Y tn L A V).held v ≤ Y.room v ∧ (v = sp 1 → (St4 Y tn L A V).held v = 0) := by
  have n02 := y.ne (i := 0) (j := 2) (by decide) (by decide) (by decide)
  have n03 := y.ne (i := 0) (j := 3) (by decide) (by decide) (by decide)
  have n01 := y.ne (i := 0) (j := 1) (by decide) (by decide) (by decide)
  have n12 := y.ne (i := 1) (j := 2) (by decide) (by decide) (by decide)
  have n13 := y.ne (i := 1) (j := 3) (by decide) (by decide) (by decide)
  have n23 := y.ne (i := 2) (j := 3) (by decide) (by decide) (by decide)
  have z := y.fits hv
  have a0 := a.a0 0 (by decide)
  have a1 := a.a0 1 (by decide)
  have f0 : Y.fill (sp 2) + A 0 - V 0 ≤ Y.room (sp 2) := a.fit 0 (by decide)
  have f1 : Y.fill (sp 3) + A 1 - V 1 ≤ Y.room (sp 3) := a.fit 1 (by decide)
  rw [St4_held y a]
  unfold cm
  by_cases h0 : v = sp 0
  · rw [h0] at z ⊢
    rw [if_pos rfl, if_neg n02, if_neg n03]
    exact ⟨by omega, fun e => absurd e n01⟩
  rw [if_neg h0]
  by_cases h2 : v = sp 2
  · rw [h2]
    rw [if_pos rfl, if_neg n23, if_pos rfl, if_neg n23]
    exact ⟨by omega, fun e => absurd e.symm n12⟩
  rw [if_neg h2, if_neg h2]
  by_cases h3 : v = sp 3
  · rw [h3]
    rw [if_pos rfl, if_pos rfl]
    exact ⟨by omega, fun e => absurd e.symm n13⟩
  rw [if_neg h3, if_neg h3]
  refine ⟨by omega, fun e => ?_⟩
  rw [e, y.vs.f1]
  rfl
theorem St4_free (y : Lay Y sp ln L pr tn) (a : Amt Y sp A V) (j : Nat) : fullL Y (goN Y j (St4 Y tn L A V)).held = [] := by
  refine full_nil fun v hv => ?_
  rw [goN_held Y _ (St4_later y), St4_got y a]
  obtain ⟨h1, h2⟩ := St4_room y a v hv
  have v00 := a.v0 0 (by decide)
  have v01 := a.v0 1 (by decide)
  have v10 := a.v1 0 (by decide)
  have v11 := a.v1 1 (by decide)
  by_cases e : v = sp 1
  · have h2 := h2 e
    have r1 := y.vs.r1
    rw [e] at h2 ⊢
    split <;> split <;> omega
  · rw [if_neg fun z => e z.2.symm, if_neg fun z => e z.2.symm]
    omega
def St5 (Y : Yd) (tn L : Nat) (A V : Nat → Int) : PS := goN Y 21 (St4 Y tn L A V)
theorem St5_com (y : Lay Y sp ln L pr tn) : (St5 Y tn L A V).com = [] := by
  unfold St5
  rw [goN_com Y _ (St4_later y), St4_com y, St4_t]
  have z2 := y.l2
  have z3 := y.l3
  refine List.filter_eq_nil_iff.mpr fun e he => ?_
  have h1 : ¬ L + 21 < e.1 := by
    rcases List.mem_append.mp he with h | h
    · rw [tail_mem h]
      show ¬ L + 21 < L + ln 2
      omega
    · rw [tail_mem h]
      show ¬ L + 21 < L + ln 3
      omega
  rw [decide_eq_false h1]
  exact Bool.false_ne_true
theorem St5_held (y : Lay Y sp ln L pr tn) (a : Amt Y sp A V) (v : Nat) (hv : v < Y.n) : (if v = sp 1 then V 0 + V 1 else (St4 Y tn L A V).held v) = (St5 Y tn L A V).held v := by
  unfold St5
  rw [goN_held Y _ (St4_later y), St4_got y a, St4_t]
  have z2 := y.l2
  have z3 := y.l3
  by_cases e : v = sp 1
  · rw [if_pos e, if_pos ⟨by omega, e.symm⟩, if_pos ⟨by omega, e.symm⟩, (St4_room y a v hv).2 e]
    omega
  · rw [if_neg e, if_neg fun z => e z.2.symm, if_neg fun z => e z.2.symm]
    omega
theorem Lay.ps (y : Lay Y sp ln L pr tn) {k : Nat} (hk : k < 2) : (Y.pipe (pj tn k)).s = sp 0 := by
  have hk' : k = 0 ∨ k = 1 := by omega
  rcases hk' with rfl | rfl
  · rw [y.p0]
  · rw [y.p1]
theorem Lay.pg (y : Lay Y sp ln L pr tn) {k : Nat} (hk : k < 2) : (Y.pipe (pj tn k)).g = sp (2 + k) := by
  have hk' : k = 0 ∨ k = 1 := by omega
  rcases hk' with rfl | rfl
  · rw [y.p0]
  · rw [y.p1]
theorem Lay.pn (y : Lay Y sp ln L pr tn) {k i : Nat} (hk : k < 2) (hi : i < 4) (n : i ≠ pj tn k) : (Y.pipe i).g ≠ sp (2 + k) := by
  have hk' : k = 0 ∨ k = 1 := by omega
  rcases hk' with rfl | rfl
  · exact y.g2 hi n
  · exact y.g3 hi n
theorem Lay.qs (y : Lay Y sp ln L pr tn) {k : Nat} (hk : k < 2) : (Y.pipe (pj tn (2 + k))).s = sp (2 + k) := by
  have hk' : k = 0 ∨ k = 1 := by omega
  rcases hk' with rfl | rfl
  · show (Y.pipe (pj tn 2)).s = sp 2
    rw [y.p2]
  · show (Y.pipe (pj tn 3)).s = sp 3
    rw [y.p3]
theorem Lay.qn (y : Lay Y sp ln L pr tn) {k i : Nat} (hk : k < 2) (hi : i < 4) (n : i ≠ pj tn (2 + k)) : (Y.pipe i).s ≠ sp (2 + k) := by
  have hk' : k = 0 ∨ k = 1 := by omega
  rcases hk' with rfl | rfl
  · exact y.s2 hi n
  · exact y.s3 hi n
theorem St1_zero (Y : Yd) (tn : Nat) : St1 Y tn (fun _ => 0) = St0 Y := by
  unfold St1
  rw [lt_zero, lt_zero]
theorem Amt.zero (y : Lay Y sp ln L pr tn) : Amt Y sp (fun _ => 0) (fun _ => 0) := by
  refine ⟨fun _ _ => Int.le_refl _, fun _ _ => by decide, fun _ _ => Int.le_refl _, fun _ _ => by decide, fun _ _ => Int.le_refl _, fun k hk => ?_⟩
  have z := (y.vs.mid k hk).2.1
  omega
theorem Amt.put (y : Lay Y sp ln L pr tn) (a : Amt Y sp A V) {k : Nat} (hk : k < 2) {b : Int} (h0 : 0 ≤ b) (h1 : b ≤ 100000000000) : Amt Y sp (put A k (Y.room (sp (2 + k)) - Y.fill (sp (2 + k)) + b)) (put V k b) := by
  obtain ⟨m1, m2, m3⟩ := y.vs.mid k hk
  unfold Vy.put
  refine ⟨fun j hj => ?_, fun j hj => ?_, fun j hj => ?_, fun j hj => ?_, fun j hj => ?_, fun j hj => ?_⟩
  · have z := a.a0 j hj
    split <;> omega
  · have z := a.a3 j hj
    split <;> omega
  · have z := a.v0 j hj
    split <;> omega
  · have z := a.v1 j hj
    split <;> omega
  · have z := a.va j hj
    split <;> omega
  · have z := a.fit j hj
    split
    · rename_i e
      rw [e]
      omega
    · omega
/-- the states ahead of the k-th emptying -/
def stK (Y : Yd) (tn L : Nat) (A V : Nat → Int) (k : Nat) : PS := if k = 0 then St2 Y tn L A else if k = 1 then St3 Y tn L A V else St4 Y tn L A V
theorem stK_succ {k : Nat} (hk : k < 2) : stK Y tn L A V (k + 1) = lt Y (stK Y tn L A V k) (pj tn (2 + k)) (V k) := by
  have hk' : k = 0 ∨ k = 1 := by omega
  rcases hk' with rfl | rfl
  · rfl
  · rfl
theorem stK_t (k : Nat) : (stK Y tn L A V k).t = L := by
  unfold stK
  split
  · exact St2_t
  · split
    · exact St3_t
    · exact St4_t
theorem stK_used (y : Lay Y sp ln L pr tn) {k : Nat} (hk : k < 2) : (stK Y tn L A V k).used (pj tn (2 + k)) = 0 := by
  have hk' : k = 0 ∨ k = 1 := by omega
  rcases hk' with rfl | rfl
  · exact St2_used y _
  · exact St3_used y
theorem stK_held (y : Lay Y sp ln L pr tn) (a : Amt Y sp A V) {k : Nat} (hk : k < 2) : (stK Y tn L A V k).held (sp (2 + k)) = Y.fill (sp (2 + k)) + A k := by
  have hk' : k = 0 ∨ k = 1 := by omega
  rcases hk' with rfl | rfl
  · exact St2_h2 y a
  · exact St3_h3 y a
theorem stK_key (y : Lay Y sp ln L pr tn) {k : Nat} (hk : k < 2) : ¬ ((stK Y tn L A V k).t + (Y.pipe (pj tn (2 + k))).len, pj tn (2 + k)) ∈ (stK Y tn L A V k).com.map ky := by
  have hk' : k = 0 ∨ k = 1 := by omega
  rcases hk' with rfl | rfl
  · show ¬ _ ∈ (St2 Y tn L A).com.map ky
    rw [St2_com y]
    exact List.not_mem_nil
  · exact St3_key y
theorem stK_len (y : Lay Y sp ln L pr tn) {k : Nat} (hk : k < 2) : (stK Y tn L A V k).com.length ≤ 1 := by
  have hk' : k = 0 ∨ k = 1 := by omega
  rcases hk' with rfl | rfl
  · show (St2 Y tn L A).com.length ≤ 1
    rw [St2_com y]
    exact Nat.zero_le _
  · show (St3 Y tn L A V).com.length ≤ 1
    rw [St3_com y]
    exact tail_len _ _
theorem ov_bd (y : Lay Y sp ln L pr tn) (a : Amt Y sp A V) {k : Nat} (hk : k < 2) : BdT (L + ln (2 + k), pj tn (2 + k), V k) := by
  have h0 := a.v0 k hk
  have h1 := a.v1 k hk
  have h2 := pj_lt tn (2 + k)
  have h3 := y.L20
  have h4 : ln (2 + k) ≤ 20 := by
    have hk' : k = 0 ∨ k = 1 := by omega
    rcases hk' with rfl | rfl
    · exact y.l2.2
    · exact y.l3.2
  refine ⟨?_, ?_, h0, ?_⟩
  · show ((L + ln (2 + k) : Nat) : Int) < 10000000000000
    omega
  · show ((pj tn (2 + k) : Nat) : Int) < 10000000000000
    omega
  · show V k < 10000000000000
    omega
theorem stK_bd (y : Lay Y sp ln L pr tn) (a : Amt Y sp A V) {k : Nat} (hk : k < 2) : ∀ e, e ∈ (stK Y tn L A V k).com → BdT e := by
  have hk' : k = 0 ∨ k = 1 := by omega
  rcases hk' with rfl | rfl
  · show ∀ e, e ∈ (St2 Y tn L A).com → BdT e
    rw [St2_com y]
    intro e he
    exact absurd he List.not_mem_nil
  · show ∀ e, e ∈ (St3 Y tn L A V).com → BdT e
    rw [St3_com y]
    intro e he
    rw [tail_mem he]
    exact ov_bd y a (k := 0) (by decide)
theorem Lay.ql (y : Lay Y sp ln L pr tn) {k : Nat} (hk : k < 2) : (Y.pipe (pj tn (2 + k))).len = ln (2 + k) := by
  have hk' : k = 0 ∨ k = 1 := by omega
  rcases hk' with rfl | rfl
  · show (Y.pipe (pj tn 2)).len = ln 2
    rw [y.p2]
  · show (Y.pipe (pj tn 3)).len = ln 3
    rw [y.p3]
end
end Vy

/-! VySit: what the law holds in its hands. -/
namespace Vy
open PyProof.Rows PySem PySem.Spec L2
/-- what the Play may change, no more than what stands -/
theorem PlayAt.shrink {C : Addr} {Y : Yd} {H : Hp} {O : Addr → Prop} {p : Addr} {S : PS} (h : PlayAt C Y H O p S) : PlayAt C Y H (fun b => O b ∧ H b ≠ none) p S := by
  obtain ⟨lv, lp, lh, lu, dc, c, op, oh, ou, oc, ov, opp⟩ := h.core
  obtain ⟨dx, ob⟩ := c.ob
  obtain ⟨xs, e1, _⟩ := id c.vats
  obtain ⟨ys, e2, _⟩ := id c.pipes
  have f : ∀ {b : Addr} {o : HO}, H b = some o → H b ≠ none := fun e z => by
    rw [z] at e
    cases e
  exact ⟨lv, lp, lh, lu, dc, c, ⟨op, f ob⟩, ⟨oh, f c.held⟩, ⟨ou, f c.used⟩, ⟨oc, f c.com⟩, ⟨ov, f e1⟩, ⟨opp, f e2⟩⟩
structure Sit (C : Addr) (Y : Yd) (sp : Nat → Nat) (H0 : Hp) (q0 lv lp p lh lo lc : Addr) (G : Hp) (O : Addr → Prop) (S : PS) (hd ov cv : Nat → Int) : Prop where
  pl : PlayAt C Y G O p S
  sm : Same H0 G
  on : ∀ b o, H0 b = some o → ¬ O b
  sps : G q0 = some (.lst (natL Y.n sp))
  oq : ¬ O q0
  vats : VatsAt G lv Y.n Y.room Y.fill
  ov_ : ¬ O lv
  pipes : PipesAt G lp Y.m Y.pipe
  op_ : ¬ O lp
  held : G lh = some (.lst (lsI Y.n hd))
  oh : ¬ O lh
  over : G lo = some (.lst (lsI 2 ov))
  oo : ¬ O lo
  come : G lc = some (.lst (lsI Y.n cv))
  oc : ¬ O lc
  h0 : H0 lh = none
  o0 : H0 lo = none
  c0 : H0 lc = none
  qh : q0 ≠ lh
  vh : lv ≠ lh
  ph : lp ≠ lh
  qo : q0 ≠ lo
  vo : lv ≠ lo
  po : lp ≠ lo
  ho : lh ≠ lo
  qc : q0 ≠ lc
  vc : lv ≠ lc
  pc : lp ≠ lc
  hc : lh ≠ lc
  oc_ : lo ≠ lc
section
variable {C : Addr} {Y : Yd} {sp : Nat → Nat} {H0 : Hp} {q0 lv lp p lh lo lc : Addr} {G : Hp} {O : Addr → Prop} {S : PS} {hd ov cv : Nat → Int}
/-- all that stands, but for the three lists and what the Play may change -/
theorem Sit.chgW (s : Sit C Y sp H0 q0 lv lp p lh lo lc G O S hd ov cv) {G' : Hp} {O' : Addr → Prop} {S' : PS} {hd' ov' cv' : Nat → Int} {wy : Addr} {zs : List V} (w0 : H0 wy = none) (wq : q0 ≠ wy) (wv : lv ≠ wy) (wp : lp ≠ wy) (wl : G wy = some (.lst zs)) (pl : PlayAt C Y G' O' p S') (out : ∀ b o, G b = some o → ¬ O b → ¬ O' b)
    (k : ∀ b o, G b = some o → (O b → ∃ ys, o = .tup ys) → b ≠ lh → b ≠ lo → b ≠ lc → b ≠ wy → G' b = some o) (hh : G' lh = some (.lst (lsI Y.n hd'))) (ho : G' lo = some (.lst (lsI 2 ov'))) (hc : G' lc = some (.lst (lsI Y.n cv'))) :
    Sit C Y sp H0 q0 lv lp p lh lo lc G' O' S' hd' ov' cv' := by
  have kk : ∀ b o, G b = some o → ¬ O b → b ≠ lh → b ≠ lo → b ≠ lc → b ≠ wy → G' b = some o := fun b o e n => k b o e fun z => absurd z n
  have tp : ∀ b ys, G b = some (.tup ys) → G' b = some (.tup ys) := fun b ys e => k b _ e (fun _ => ⟨ys, rfl⟩) (ne_of e s.held (by intro z; cases z)) (ne_of e s.over (by intro z; cases z)) (ne_of e s.come (by intro z; cases z)) (ne_of e wl (by intro z; cases z))
  obtain ⟨xs, v1, _⟩ := id s.vats
  obtain ⟨ys, p1, _⟩ := id s.pipes
  exact
  { pl := pl
    sm := fun b o e => kk b o (s.sm b o e) (s.on b o e) (ne_of_none e s.h0) (ne_of_none e s.o0) (ne_of_none e s.c0) (ne_of_none e w0)
    on := fun b o e => out b o (s.sm b o e) (s.on b o e)
    sps := kk _ _ s.sps s.oq s.qh s.qo s.qc wq
    oq := out _ _ s.sps s.oq
    vats := s.vats.keep (fun o e => kk _ _ e s.ov_ s.vh s.vo s.vc wv) tp
    ov_ := out _ _ v1 s.ov_
    pipes := s.pipes.keep (fun o e => kk _ _ e s.op_ s.ph s.po s.pc wp) tp
    op_ := out _ _ p1 s.op_
    held := hh
    oh := out _ _ s.held s.oh
    over := ho
    oo := out _ _ s.over s.oo
    come := hc
    oc := out _ _ s.come s.oc
    h0 := s.h0
    o0 := s.o0
    c0 := s.c0
    qh := s.qh
    vh := s.vh
    ph := s.ph
    qo := s.qo
    vo := s.vo
    po := s.po
    ho := s.ho
    qc := s.qc
    vc := s.vc
    pc := s.pc
    hc := s.hc
    oc_ := s.oc_ }
theorem Sit.chg (s : Sit C Y sp H0 q0 lv lp p lh lo lc G O S hd ov cv) {G' : Hp} {O' : Addr → Prop} {S' : PS} {hd' ov' cv' : Nat → Int} (pl : PlayAt C Y G' O' p S') (out : ∀ b o, G b = some o → ¬ O b → ¬ O' b)
    (k : ∀ b o, G b = some o → (O b → ∃ ys, o = .tup ys) → b ≠ lh → b ≠ lo → b ≠ lc → G' b = some o) (hh : G' lh = some (.lst (lsI Y.n hd'))) (ho : G' lo = some (.lst (lsI 2 ov'))) (hc : G' lc = some (.lst (lsI Y.n cv'))) :
    Sit C Y sp H0 q0 lv lp p lh lo lc G' O' S' hd' ov' cv' := s.chgW s.c0 s.qc s.vc s.pc s.come pl out (fun b o e t n1 n2 n3 _ => k b o e t n1 n2 n3) hh ho hc
theorem Sit.shrink (s : Sit C Y sp H0 q0 lv lp p lh lo lc G O S hd ov cv) : Sit C Y sp H0 q0 lv lp p lh lo lc G (fun b => O b ∧ G b ≠ none) S hd ov cv :=
  s.chg s.pl.shrink (fun _ _ _ n z => n z.1) (fun _ _ e _ _ _ _ => e) s.held s.over s.come
theorem Sit.same (s : Sit C Y sp H0 q0 lv lp p lh lo lc G O S hd ov cv) {G' : Hp} (k : Same G G') : Sit C Y sp H0 q0 lv lp p lh lo lc G' O S hd ov cv :=
  s.chg (s.pl.same k) (fun _ _ _ n => n) (fun b o e _ _ _ _ => k b o e) (k _ _ s.held) (k _ _ s.over) (k _ _ s.come)
/-- a write to one of the lists -/
theorem Sit.put_over (s : Sit C Y sp H0 q0 lv lp p lh lo lc G O S hd ov cv) (ov' : Nat → Int) : Sit C Y sp H0 q0 lv lp p lh lo lc (upd G lo (.lst (lsI 2 ov'))) O S hd ov' cv := by
  refine s.chg (s.pl.keep fun b o e z => ?_) (fun _ _ _ n => n) (fun b o e _ _ n _ => by rw [upd_ne n]; exact e) (by rw [upd_ne s.ho]; exact s.held) upd_same (by rw [upd_ne (Ne.symm s.oc_)]; exact s.come)
  rcases z with z | ⟨ys, rfl⟩
  · rw [upd_ne fun w => s.oo (by rw [← w]; exact z)]
    exact e
  · rw [upd_ne (ne_of e s.over (by intro z; cases z))]
    exact e
theorem Sit.put_come (s : Sit C Y sp H0 q0 lv lp p lh lo lc G O S hd ov cv) (cv' : Nat → Int) : Sit C Y sp H0 q0 lv lp p lh lo lc (upd G lc (.lst (lsI Y.n cv'))) O S hd ov cv' := by
  refine s.chg (s.pl.keep fun b o e z => ?_) (fun _ _ _ n => n) (fun b o e _ _ _ n => by rw [upd_ne n]; exact e) (by rw [upd_ne s.hc]; exact s.held) (by rw [upd_ne s.oc_]; exact s.over) upd_same
  rcases z with z | ⟨ys, rfl⟩
  · rw [upd_ne fun w => s.oc (by rw [← w]; exact z)]
    exact e
  · rw [upd_ne (ne_of e s.come (by intro z; cases z))]
    exact e
/-- some let on -/
theorem Sit.let_ (s : Sit C Y sp H0 q0 lv lp p lh lo lc G O S hd ov cv) {G' : Hp} {S' : PS} {hd' : Nat → Int} (pl : PlayAt C Y G' O p S') (hh : G' lh = some (.lst (lsI Y.n hd'))) (k : ∀ b o, G b = some o → b ≠ lh → (O b → ∃ ys, o = .tup ys) → G' b = some o) :
    Sit C Y sp H0 q0 lv lp p lh lo lc G' O S' hd' ov cv :=
  s.chg pl (fun _ _ _ n => n) (fun b o e t n _ _ => k b o e n t) hh (k _ _ s.over (Ne.symm s.ho) fun z => absurd z s.oo) (k _ _ s.come (Ne.symm s.hc) fun z => absurd z s.oc)
/-- some moments gone by -/
theorem Sit.on_to (s : Sit C Y sp H0 q0 lv lp p lh lo lc G O S hd ov cv) {G' : Hp} {O' : Addr → Prop} {S' : PS} (pl : PlayAt C Y G' O' p S') (f : Fr O G O' G') : Sit C Y sp H0 q0 lv lp p lh lo lc G' (fun b => O' b ∧ G' b ≠ none) S' hd ov cv :=
  s.chg pl.shrink (fun b o e n z => f.out b o e n z.1) (fun b o e t _ _ _ => f.kp b o e t) (f.kp.out s.held s.oh) (f.kp.out s.over s.oo) (f.kp.out s.come s.oc)
theorem Sit.vals (s : Sit C Y sp H0 q0 lv lp p lh lo lc G O S hd ov cv) {hd' cv' : Nat → Int} (h : ∀ v, v < Y.n → hd v = hd' v) (c : ∀ v, v < Y.n → cv v = cv' v) : Sit C Y sp H0 q0 lv lp p lh lo lc G O S hd' ov cv' :=
  s.chg s.pl (fun _ _ _ n => n) (fun b o e _ _ _ _ => e) (by rw [← lsI_congr h]; exact s.held) s.over (by rw [← lsI_congr c]; exact s.come)
end
/-- a promise for whatever yard it is -/
def spEx (sp : Yd → Sp) : Sp := fun vs H Q E => ∃ Y, sp Y vs H Q E
theorem fn_ex {P : Program} {w : World} {K : PySem.W.Frag} {mg : Str → Option Value} {base : Heap} {CX : CXT} {k : Nat} {f : Addr} {fd : FuncData} {ps : List Str} {sp : Yd → Sp} (F : ∀ Y, FnOk P w K mg base CX k f fd ps (sp Y)) : FnOk P w K mg base CX k f fd ps (spEx sp) := by
  refine ⟨fun vs H Q E h => ?_, fun A outer s H args us vs Q E hr he hb hv h => ?_⟩
  · obtain ⟨Y, h⟩ := h
    exact (F Y).len vs H Q E h
  · obtain ⟨Y, h⟩ := h
    exact (F Y).run A outer s H args us vs Q E hr he hb hv h
end Vy

/-! VyMain: the law. -/
namespace Vy
open PyProof.Rows PySem PySem.Spec L2
abbrev sLaw : Stmt := top 33
abbrev nLaw : List Str := ["script", "many", "spots", "vats", "length", "lengths", "pipes", "play", "held", "over", "come", "k", "goal", "number", "amount", "way", "some", "parts", "vat", "one"]
def spLaw (K : PySem.W.Frag) : Sp := fun vs H Q _ => ∃ a, vs = [.ref a] ∧ Scr K H a ∧ ∀ H', Q (.bl true) H'
section
variable {K : PySem.W.Frag} {P : Program} {w : World} {mg : Str → Option Value} {base : Heap}
theorem scLaw : FnScope nLaw ["script"] (defScope sLaw) := ⟨rfl, rfl, rfl, by decide +kernel, rfl, by decide +kernel, by decide +kernel⟩
theorem natL_put (i : Nat) (le : Nat → Nat) (x : Nat) : natL i le ++ [V.int (x : Int)] = natL (i + 1) fun j => if j = i then x else le j := by
  unfold natL
  rw [lsI_snoc]
  have e : lsI i (fun j => ((if j = i then x else le j : Nat) : Int)) = lsI i fun j => (le j : Int) := lsI_congr fun j hj => by rw [if_neg (Nat.ne_of_lt hj)]
  rw [e]
  show _ = _ ++ [V.int ((if i = i then x else le i : Nat) : Int)]
  rw [if_pos rfl]
structure Parts (P : Program) (w : World) (K : PySem.W.Frag) (mg : Str → Option Value) (base : Heap) (C : Addr) : Prop where
  draw : Df P w K mg base CX0 1 "_law_draw" ["script", "k"] (spDraw K)
  part : Df P w K mg base CX0 1 "_law_part" ["number", "most"] spPart
  spots : Df P w K mg base CX0 2 "_law_spots" ["script", "many"] (spSpots K)
  vats : Df P w K mg base CX0 2 "_law_vats" ["script", "many", "spots"] (spVats K)
  pipes : Df P w K mg base CX0 2 "_law_pipes" ["script", "spots", "lengths"] (spPipes K)
  play : Kl P w K mg base CX0 1 "Play" C ["self", "yard"] (spEx (spPI C))
  letOn : Df P w K mg base CX0 7 "_law_let_on" ["play", "vats", "held", "at", "start", "amount"] (spEx (spLetOn C))
  onTo : Df P w K mg base CX0 3 "_law_on_to" ["play", "now", "later"] (spEx (spOnTo C))
  full : Df P w K mg base CX0 3 "_law_full" ["play", "vats", "held"] (spEx (spFullW C))
  emp : Df P w K mg base CX0 8 "_law_emptied" ["play", "vats", "pipes", "held", "start", "parts", "now", "way"] (spEx (spEmp C))
  under : Md P w K mg base CX0 1 C "under_way" ["self"] (spEx (spUnder C))
theorem ok_law {f C : Addr} {fd : FuncData} (F : Fun K "law" "law" sLaw f fd) (B : BTxt mg) (D : Parts P w K mg base C) : FnOk P w K mg base CX0 9 f fd ["script"] (spLaw K) := by
  refine F.ok scLaw (fun vs H Q E h => ?_) (fun cdv A outer s H vs Q E hr h => ?_)
  · obtain ⟨a, rfl, _⟩ := h
    rfl
  · obtain ⟨a, rfl, hS, q⟩ := h
    refine ⟨_, pss_cons (ps_set (i := 1) scLaw.nd rfl (Or.inl rfl) (pe_op op_add pe_int (pe_op op_mod (pe_df D.draw hr (by decide) rfl pass0 (pa_cons (pv 0) (pa_cons pe_int pa_nil))) pe_int)))
      (pss_cons (ps_set (i := 2) scLaw.nd rfl (Or.inl rfl) (pe_df D.spots hr (by decide) rfl pass0 (pa_cons (pv 0) (pa_cons (pv 1) pa_nil))))
      (pss_cons (ps_set (i := 3) scLaw.nd rfl (Or.inl rfl) (pe_df D.vats hr (by decide) rfl pass0 (pa_cons (pv 0) (pa_cons (pv 1) (pa_cons (pv 2) pa_nil)))))
      (pss_cons (ps_set (i := 4) scLaw.nd rfl (Or.inl rfl) (pe_op op_add pe_int (pe_op op_mod (pe_df D.draw hr (by decide) rfl pass0 (pa_cons (pv 0) (pa_cons pe_int pa_nil))) pe_int)))
      (pss_cons (ps_set (i := 5) scLaw.nd rfl (Or.inl rfl) (pe_op op_cat (pe_lst (pa_cons (pv 4) (pa_cons (pv 4) pa_nil)))
        (pe_lc (own := [("k", 11)]) (g := gName 11) rfl scLaw.nd (pi_range1 (by rfl) B.range (pa_cons pe_int pa_nil)) (blkOk_by (N := nLaw) (sc := defScope sLaw) (by decide +kernel))
          (fun _ _ _ _ _ => pg_name (i := 11) scLaw.nd rfl (Or.inl rfl)) (fun _ _ _ _ _ => pts_nil) (fun _ _ _ _ _ => pe_op op_add pe_int (pe_op op_mod (pe_df D.draw hr (by decide) rfl pass0 (pa_cons (pv 0) (pa_cons (pe_op op_add pe_int (pv 11)) pa_nil))) pe_int)))))
      (pss_cons (ps_set (i := 6) scLaw.nd rfl (Or.inl rfl) (pe_df D.pipes hr (by decide) rfl pass0 (pa_cons (pv 0) (pa_cons (pv 2) (pa_cons (pv 5) pa_nil)))))
      (pss_cons (ps_set (i := 7) scLaw.nd rfl (Or.inl rfl) (pe_kl D.play hr (by decide) rfl pass0 (pa_cons (pe_tup (pa_cons (pe_callTy call_list_of (by rfl) B.list (by decide +kernel) (pa_cons (pv 3) pa_nil)) (pa_cons (pe_callTy call_list_of (by rfl) B.list (by decide +kernel) (pa_cons (pv 6) pa_nil)) pa_nil))) pa_nil)))
      (pss_cons (ps_setLc (i := 8) (own := [("vat", 18)]) (g := gName 18) (te := tOp (rIxT K) (tVar 18) (tC (.int 2))) rfl scLaw.nd rfl rfl (sw_true rfl rfl rfl (by decide +kernel)) (pi_list (pv 3)) (blkOk_by (N := nLaw) (sc := defScope sLaw) (by decide +kernel))
        (fun _ _ _ _ _ => pg_name (i := 18) scLaw.nd rfl (Or.inl rfl)) (fun _ _ _ _ _ => pts_nil) (fun _ _ _ _ _ => pe_ix ix_tup (pv 18) pe_int (fun _ _ => rfl)))
      (pss_cons (ps_set (i := 9) scLaw.nd rfl (Or.inl rfl) (pe_lst (pa_cons pe_int (pa_cons pe_int pa_nil))))
      (pss_cons (ps_set (i := 10) scLaw.nd rfl (Or.inl rfl) (pe_callTy call_list_of (by rfl) B.list (by decide +kernel) (pa_cons (pv 8) pa_nil)))
      (pss_cons (ps_for PassesOwn.never rfl (pi_range1 (by rfl) B.range (pa_cons (pe_op op_add pe_int (pe_op op_mod (pe_df D.draw hr (by decide) rfl pass0 (pa_cons (pv 0) (pa_cons pe_int pa_nil))) pe_int)) pa_nil)) (pg_name (i := 11) scLaw.nd rfl (Or.inl rfl))
        (pss_cons (ps_set (i := 12) scLaw.nd rfl (Or.inl rfl) (pe_ix ix_list (pv 2) (pe_op op_add pe_int (pv 11)) (fun _ _ => rfl)))
        (pss_cons (ps_set (i := 13) scLaw.nd rfl (Or.inl rfl) (pe_df D.draw hr (by decide) rfl pass0 (pa_cons (pv 0) (pa_cons (pe_op op_add pe_int (pv 11)) pa_nil))))
        (pss_cons (ps_asg (pe_ix ix_list (pe_lst (pa_cons pe_int (pa_cons (pe_op op_add pe_int (pe_df D.part hr (by decide) rfl pass0 (pa_cons (pe_op op_fdiv (pv 13) pe_int) (pa_cons (pe_op op_sub (pe_op op_pow pe_int pe_int) pe_int) pa_nil)))) pa_nil)))
            (pe_callTy call_int1 (by rfl) B.int (by decide +kernel) (pa_cons (pe_cmpR op_gt (pe_op op_mod (pv 13) pe_int) pe_int (nomark _)) pa_nil)) (fun _ _ => rfl)) (pg_sub (pv 9) (pv 11) set_list))
        (pss_cons (ps_set (i := 14) scLaw.nd rfl (Or.inl rfl) (pe_op op_add (pe_op op_sub (pe_ix ix_tup (pe_ix ix_list (pv 3) (pv 12) (fun _ _ => rfl)) pe_int (fun _ _ => rfl)) (pe_ix ix_tup (pe_ix ix_list (pv 3) (pv 12) (fun _ _ => rfl)) pe_int (fun _ _ => rfl))) (pe_ix ix_list (pv 9) (pv 11) (fun _ _ => rfl))))
        (pss_cons (ps_if (pt_not (pt_val (pe_df D.letOn hr (by decide) rfl pass0 (pa_cons (pv 7) (pa_cons (pv 3) (pa_cons (pv 8)
          (pa_cons (pe_bm PySem.F.plainAttrs_list PySem.F.slot_list_index PySem.F.type_list_index mt_index (pe_lc (own := [("one", 19)]) (g := gName 19) (te := tOp (rIxT K) (tVar 19) (tC (.int 1))) rfl scLaw.nd (pi_list (pv 6)) (blkOk_by (N := nLaw) (sc := defScope sLaw) (by decide +kernel))
            (fun _ _ _ _ _ => pg_name (i := 19) scLaw.nd rfl (Or.inl rfl)) (fun _ _ _ _ _ => pts_nil) (fun _ _ _ _ _ => pe_ix ix_tup (pv 19) pe_int (fun _ _ => rfl))) (pa_cons (pv 12) pa_nil))
          (pa_cons (pe_ix ix_list (pv 2) pe_int (fun _ _ => rfl)) (pa_cons (pv 14) pa_nil))))))))) (pss_one ps_never) pss_nil)
        (pss_one (ps_asg (pe_op op_add (pe_ix ix_list (pv 10) (pv 12) (fun _ _ => rfl)) (pv 14)) (pg_sub (pv 10) (pv 12) set_list)))))))))
      (pss_cons (ps_asg (pe_ix ix_list (pv 8) (pe_ix ix_list (pv 2) pe_int (fun _ _ => rfl)) (fun _ _ => rfl)) (pg_sub (pv 10) (pe_ix ix_list (pv 2) pe_int (fun _ _ => rfl)) set_list))
      (pss_cons (ps_if (PW.pt (pw_or (pt_not (pt_val (pe_df D.onTo hr (by decide) rfl pass0 (pa_cons (pv 7) (pa_cons pe_int (pa_cons (pv 4) pa_nil))))))
        (pw_or1 (pt_not (pt_val (pe_df D.full hr (by decide) rfl pass0 (pa_cons (pv 7) (pa_cons (pv 3) (pa_cons (pv 10) pa_nil))))))))) (pss_one ps_never) pss_nil)
      (pss_cons (ps_set (i := 15) scLaw.nd rfl (Or.inl rfl) (pe_lst pa_nil))
      (pss_cons (ps_for PassesOwn.never rfl (pi_range1 (by rfl) B.range (pa_cons pe_int pa_nil)) (pg_name (i := 11) scLaw.nd rfl (Or.inl rfl))
        (pss_cons (ps_set (i := 16) scLaw.nd rfl (Or.inl rfl) (pe_op op_mod (pe_df D.draw hr (by decide) rfl pass0 (pa_cons (pv 0) (pa_cons (pe_op op_add pe_int (pv 11)) pa_nil))) (pe_op op_add (pe_ix ix_list (pv 9) (pv 11) (fun _ _ => rfl)) pe_int)))
        (pss_cons (ps_set (i := 17) scLaw.nd rfl (Or.inl rfl) (pe_lst (pa_cons pe_int (pa_cons (pv 16) (pa_cons (pe_op op_sub (pe_ix ix_list (pv 9) (pv 11) (fun _ _ => rfl)) (pv 16)) pa_nil)))))
        (pss_one (ps_if (pt_not (pt_val (pe_df D.emp hr (by decide) rfl pass0 (pa_cons (pv 7) (pa_cons (pv 3) (pa_cons (pv 6) (pa_cons (pv 10) (pa_cons (pe_ix ix_list (pv 2) (pe_op op_add pe_int (pv 11)) (fun _ _ => rfl)) (pa_cons (pv 17) (pa_cons (pv 4) (pa_cons (pv 15) pa_nil)))))))))))
          (pss_one ps_never) pss_nil)))))
      (pss_cons (ps_if (pt_not (pt_val (pe_df D.onTo hr (by decide) rfl pass0 (pa_cons (pv 7) (pa_cons (pv 4) (pa_cons (pe_op op_add (pv 4) pe_int) pa_nil)))))) (pss_one ps_never) pss_nil)
      (pss_cons (ps_asg (pe_op op_add (pe_ix ix_list (pv 9) pe_int (fun _ _ => rfl)) (pe_ix ix_list (pv 9) pe_int (fun _ _ => rfl))) (pg_sub (pv 10) (pe_ix ix_list (pv 2) pe_int (fun _ _ => rfl)) set_list))
      (pss_one (ps_ret (pe_and (pe_df D.full hr (by decide) rfl pass0 (pa_cons (pv 7) (pa_cons (pv 3) (pa_cons (pv 10) pa_nil))))
        (pe_one (pe_cmpR (op_eqD hr.units) (pe_md0 D.under hr (by decide) pass0 (pv 7)) (pe_lst pa_nil) (nomark _)))))))))))))))))))))), ?_⟩
    obtain ⟨ns, hs1, hs2⟩ := id hS
    -- many
    refine ⟨_, rfl, a, ns, _, rfl, hs1, hs2, by decide, by decide, fun d0 H1 s1 _ => ⟨_, _, rfl, rfl, (by show (0 : Int) < 9; decide), _, _, rfl, rfl, ?_⟩⟩
    obtain ⟨r0, er0, hr0⟩ := below (d := d0) (n := 9) (by decide)
    show gName 1 (V.int (4 + d0 % ((9 : Nat) : Int))) _ _ _
    rw [er0, show (4 : Int) + (r0 : Int) = ((4 + r0 : Nat) : Int) from by omega]
    have n4 : 4 ≤ 4 + r0 := by omega
    have n12 : 4 + r0 ≤ 12 := by omega
    generalize 4 + r0 = n at n4 n12 ⊢
    -- spots, vats
    refine ⟨_, rfl, _, rfl, a, n, rfl, hS.same s1, n4, n12, fun q0 H2 sp s2 f2 hI hq => ?_⟩
    refine ⟨_, rfl, _, rfl, _, rfl, a, q0, n, sp, rfl, hS.same (s1.trans s2), n4, n12, hI, hq, fun lv H3 room fill s3 f3 hV hVS => ?_⟩
    have s03 := s1.trans (s2.trans s3)
    have hq3 := s3 _ _ hq
    have nqv : q0 ≠ lv := ne_of_none hq f3
    -- length
    refine ⟨_, rfl, a, ns, _, rfl, s03.seq hs1, hs2, by decide, by decide, fun d1 H4 s4 _ => ⟨_, _, rfl, rfl, (by show (0 : Int) < 20; decide), _, _, rfl, rfl, ?_⟩⟩
    obtain ⟨r1, er1, hr1⟩ := below (d := d1) (n := 20) (by decide)
    show gName 4 (V.int (1 + d1 % ((20 : Nat) : Int))) _ _ _
    rw [er1, show (1 : Int) + (r1 : Int) = ((1 + r1 : Nat) : Int) from by omega]
    have L1 : 1 ≤ 1 + r1 := by omega
    have L20 : 1 + r1 ≤ 20 := by omega
    generalize 1 + r1 = L at L1 L20 ⊢
    -- lengths
    refine ⟨_, rfl, _, rfl, (by show 2 ≤ sizeLine; decide), fun l1 f1 => ?_⟩
    have s5 := s4.trans (same_upd (o := .lst [V.int (L : Int), V.int (L : Int)]) f1)
    have hl1 : upd H4 l1 (.lst [V.int (L : Int), V.int (L : Int)]) l1 = some (.lst [V.int (L : Int), V.int (L : Int)]) := upd_same
    generalize upd H4 l1 (.lst [V.int (L : Int), V.int (L : Int)]) = H5 at s5 hl1 ⊢
    refine ⟨_, rfl, by decide, by decide, fun D0 hD0 => lc_range (lo := 0) (n := 2) (fun i H' => Same H5 H' ∧ ∃ le : Nat → Nat, H' D0 = some (.lst (natL i le)) ∧ ∀ j, j < i → 1 ≤ le j ∧ le j ≤ 20) ⟨same_upd hD0, fun _ => 0, upd_same, fun j hj => absurd hj (by omega)⟩ ?_ ?_⟩
    · rintro i H' hi ⟨sm, le, hd, hle⟩
      refine ⟨rfl, iteT (B := True) ⟨_, rfl, _, rfl, _, _, rfl, rfl, a, ns, _, rfl, (s03.trans (s5.trans sm)).seq hs1, hs2, by omega, by omega, fun d2 H6 s6 _ => ⟨_, _, rfl, rfl, (by show (0 : Int) < 20; decide), _, _, rfl, rfl, ?_⟩⟩⟩
      obtain ⟨r2, er2, hr2⟩ := below (d := d2) (n := 20) (by decide)
      refine ⟨_, s6 _ _ hd, by rw [lsI_len]; exact small1000 (by omega), fun b o e => ?_, fun j => if j = i then 1 + r2 else le j, ?_, fun j hj => ?_⟩
      · rw [upd_ne (ne_of_none e hD0)]
        exact s6 _ _ (sm _ _ e)
      · rw [upd_same]
        show some (HO.lst (natL i le ++ [V.int (1 + d2 % ((20 : Nat) : Int))])) = _
        rw [er2, show (1 : Int) + (r2 : Int) = ((1 + r2 : Nat) : Int) from by omega, natL_put]
      · show 1 ≤ (if j = i then 1 + r2 else le j) ∧ (if j = i then 1 + r2 else le j) ≤ 20
        by_cases e : j = i
        · rw [if_pos e]
          omega
        · rw [if_neg e]
          exact hle j (by omega)
    rintro H6 ⟨s6, le, hle0, hle⟩
    refine ⟨l1, D0, _, _, rfl, rfl, s6 _ _ hl1, hle0, (by show 4 ≤ sizeLine; decide), fun ll fll => ?_⟩
    have hll : upd H6 ll (.lst ([V.int (L : Int), V.int (L : Int)] ++ natL 2 le)) ll = some (.lst (natL 4 fun j => if j < 2 then L else le (j - 2))) := upd_same
    have s7 := s5.trans (s6.trans (same_upd (o := .lst ([V.int (L : Int), V.int (L : Int)] ++ natL 2 le)) fll))
    generalize upd H6 ll (.lst ([V.int (L : Int), V.int (L : Int)] ++ natL 2 le)) = H7 at s7 hll ⊢
    have s07 := s03.trans s7
    -- pipes
    refine ⟨_, rfl, _, rfl, _, rfl, a, q0, ll, n, sp, _, rfl, hS.same s07, n4, s7 _ _ hq3, hll, fun lp H8 tn pr s8 f8 htn hP => ?_⟩
    obtain ⟨Y, hY, hYn, hV8, hP8⟩ : ∃ Y, Lay Y sp (fun j => if j < 2 then L else le (j - 2)) L pr tn ∧ Y.n = n ∧ VatsAt H8 lv Y.n Y.room Y.fill ∧ PipesAt H8 lp Y.m Y.pipe :=
      ⟨⟨n, room, fill, 4, fun i => P4 sp (fun j => if j < 2 then L else le (j - 2)) pr ((i + tn) % 4)⟩, ⟨n4, n12, hI, hVS, rfl, htn, fun _ => rfl, rfl, rfl, L1, L20, hle 0 (by decide), hle 1 (by decide)⟩, rfl, hV.same (s7.trans s8), hP⟩
    subst hYn
    have s08 := s07.trans s8
    have q8 := s8 _ _ (s7 _ _ hq3)
    have nvp : lv ≠ lp := ne_of_none (s7 _ _ hV.choose_spec.1) f8
    have nqp : q0 ≠ lp := ne_of_none (s7 _ _ hq3) f8
    clear hP hV hle0 hll hl1
    -- the Play
    obtain ⟨xs, v1, v2, v3⟩ := id hV8
    obtain ⟨ys, p1, p2, p3⟩ := id hP8
    refine ⟨_, rfl, lv, _, rfl, .inl (SqL.of v1), fun l2 g2 => ?_⟩
    have t2 := same_upd (o := .lst xs) g2
    refine ⟨_, rfl, lp, _, rfl, .inl (SqL.of (t2 _ _ p1)), fun l3 g3 => ?_⟩
    have t3 := same_upd (o := .lst ys) g3
    have e2 := t3 _ _ (upd_same (H := H8) (a := l2) (o := .lst xs))
    have e3 : upd (upd H8 l2 (.lst xs)) l3 (.lst ys) l3 = some (.lst ys) := upd_same
    have t23 := t2.trans t3
    generalize upd (upd H8 l2 (.lst xs)) l3 (.lst ys) = H9 at t23 e2 e3 ⊢
    refine ⟨(by show 2 ≤ sizeLine; decide), fun y fy => ?_⟩
    have t4 := same_upd (o := .tup [V.ref l2, V.ref l3]) fy
    have ey : upd H9 y (.tup [V.ref l2, V.ref l3]) y = some (.tup [V.ref l2, V.ref l3]) := upd_same
    have e24 := t4 _ _ e2
    have e34 := t4 _ _ e3
    have t8 := t23.trans t4
    generalize upd H9 y (.tup [V.ref l2, V.ref l3]) = Hb at t8 ey e24 e34 ⊢
    intro p dx np ndx ned
    have tc : Same Hb (upd (upd Hb dx (.own p)) p (.ins C dx [])) := fun b o e => by
      rw [upd_ne (ne_of_none e np), upd_ne (ne_of_none e ndx)]
      exact e
    have ep : upd (upd Hb dx (.own p)) p (.ins C dx []) p = some (.ins C dx []) := upd_same
    generalize upd (upd Hb dx (.own p)) p (.ins C dx []) = Hc at tc ep ⊢
    refine ⟨Y, p, dx, y, l2, l3, rfl, ep, tc _ _ ey, ⟨xs, tc _ _ e24, v2, fun i hi => ?_⟩, ⟨ys, tc _ _ e34, p2, fun i hi => ?_⟩, hY.yok, fun H10 hpl kp => ⟨rfl, ?_⟩⟩
    · obtain ⟨b, nm, z1, z2⟩ := v3 i hi
      exact ⟨b, nm, z1, tc _ _ (t8 _ _ z2)⟩
    · obtain ⟨b, g, z1, z2, z3⟩ := p3 i hi
      exact ⟨b, g, z1, tc _ _ (t8 _ _ z2), tc _ _ (t8 _ _ z3)⟩
    have s10 : Same Hb H10 := fun b o e => kp b o (tc b o e) (ne_of_none e np)
    have s810 := t8.trans s10
    have s010 := s08.trans s810
    obtain ⟨O, hpl, hO, hO2⟩ : ∃ O, PlayAt C Y H10 O p (St0 Y) ∧ (∀ b o, Hb b = some o → ¬ O b) ∧ ∀ b, H10 b = none → ¬ O b := by
      refine ⟨_, hpl.shrink, fun b o e z => ?_, fun b e z => z.2 e⟩
      rcases z.1 with z | z
      · rw [z, np] at e
        cases e
      · rw [tc _ _ e] at z
        cases z
    have v10 := s810 _ _ v1
    -- held, from the vats' fills
    refine ⟨_, rfl, lv, rfl, ⟨_, SqL.of v10⟩, fun lh flh => lc_list (K := K) (a := lv) (xs := xs) (fun i H' => Same H10 H' ∧ H' lh = some (.lst (lsI i Y.fill))) ⟨same_upd flh, upd_same⟩ (fun i H' _ z => SqL.of (z.1 _ _ v10)) ?_ ?_⟩
    · rintro i x H' hi ⟨sm, hd⟩
      have hin : i < Y.n := by
        have z := (List.getElem?_eq_some_iff.mp hi).1
        omega
      obtain ⟨b, nm, z1, z2⟩ := v3 i hin
      rw [z1] at hi
      cases hi
      refine ⟨rfl, ?_⟩
      refine iteT (B := True) ⟨_, rfl, b, _, _, _, rfl, rfl, SqT.of (sm _ _ (s810 _ _ z2)), at_of (j := 2) rfl rfl, _, hd, ?_, ?_, ?_⟩
      · rw [lsI_len]
        exact small1000 (by omega)
      · intro b o e
        rw [upd_ne (ne_of_none e flh)]
        exact sm _ _ e
      · rw [upd_same, lsI_snoc]
    rintro H11 ⟨s11, hlh⟩
    rw [v2] at hlh
    -- nothing over yet
    refine ⟨(by show 2 ≤ sizeLine; decide), fun lo flo => ?_⟩
    have s12 := same_upd (o := .lst [V.int 0, V.int 0]) flo
    have hlo : upd H11 lo (.lst [V.int 0, V.int 0]) lo = some (.lst (lsI 2 fun _ => 0)) := upd_same
    have hlh12 := s12 _ _ hlh
    have nho : lh ≠ lo := ne_of_none hlh flo
    generalize upd H11 lo (.lst [V.int 0, V.int 0]) = H12 at s12 hlo hlh12 ⊢
    -- come, a copy
    refine ⟨_, rfl, lh, _, rfl, .inl (SqL.of hlh12), fun lc flc => ?_⟩
    have s13 := same_upd (o := .lst (lsI Y.n Y.fill)) flc
    have hlc : upd H12 lc (.lst (lsI Y.n Y.fill)) lc = some (.lst (lsI Y.n Y.fill)) := upd_same
    have nhc : lh ≠ lc := ne_of_none hlh12 flc
    have noc : lo ≠ lc := ne_of_none hlo flc
    have hlh13 := s13 _ _ hlh12
    have hlo13 := s13 _ _ hlo
    generalize upd H12 lc (.lst (lsI Y.n Y.fill)) = G0 at s13 hlc hlh13 hlo13 ⊢
    have s1013 := s11.trans (s12.trans s13)
    have q10 := s810 _ _ q8
    have p10 := s810 _ _ p1
    have sit : Sit C Y sp H q0 lv lp p lh lo lc G0 O (St0 Y) Y.fill (fun _ => 0) Y.fill :=
    { pl := hpl.same s1013
      sm := s010.trans s1013
      on := fun b o e => hO b o (t8 _ _ (s08 _ _ e))
      sps := s1013 _ _ q10
      oq := hO _ _ (t8 _ _ q8)
      vats := hV8.same (s810.trans s1013)
      ov_ := hO _ _ (t8 _ _ v1)
      pipes := hP8.same (s810.trans s1013)
      op_ := hO _ _ (t8 _ _ p1)
      held := hlh13
      oh := hO2 _ flh
      over := hlo13
      oo := hO2 _ (s11.free flo)
      come := hlc
      oc := hO2 _ ((s11.trans s12).free flc)
      h0 := s010.free flh
      o0 := (s010.trans s11).free flo
      c0 := (s010.trans (s11.trans s12)).free flc
      qh := ne_of_none q10 flh
      vh := ne_of_none v10 flh
      ph := ne_of_none p10 flh
      qo := ne_of_none (s11 _ _ q10) flo
      vo := ne_of_none (s11 _ _ v10) flo
      po := ne_of_none (s11 _ _ p10) flo
      ho := nho
      qc := ne_of_none ((s11.trans s12) _ _ q10) flc
      vc := ne_of_none ((s11.trans s12) _ _ v10) flc
      pc := ne_of_none ((s11.trans s12) _ _ p10) flc
      hc := nhc
      oc_ := noc }
    clear hpl hO hO2 v10 hlh hlo hlh12 hlc hlh13 hlo13 s1013 q10 p10
    have hm := hY.m
    have yok := hY.yok
    -- the loop
    refine ⟨_, rfl, a, ns, _, rfl, sit.sm.seq hs1, hs2, by decide, by decide, fun d3 G1 g1 _ => ⟨_, _, rfl, rfl, (by show (0 : Int) < 2; decide), _, _, rfl, rfl, ?_⟩⟩
    obtain ⟨r3, er3, hr3⟩ := below (d := d3) (n := 2) (by decide)
    refine ⟨((1 + r3 : Nat) : Int), ?_, by omega, by omega, for_range (lo := 0) (n := 1 + r3) (fun i σ G => ∃ (A OV : Nat → Int) (v11 v12 v13 v14 : Option V), σ = [some (.ref a), some (.int (Y.n : Int)), some (.ref q0), some (.ref lv), some (.int (L : Int)), some (.ref ll), some (.ref lp), some (.ref p), some (.ref lh), some (.ref lo), some (.ref lc), v11, v12, v13, v14, none, none, none, none, none] ∧
      Sit C Y sp H q0 lv lp p lh lo lc G O (St1 Y tn A) (St1 Y tn A).held OV (cm Y sp A) ∧ Amt Y sp A OV ∧ ∀ j, i ≤ j → j < 2 → A j = 0) ?_ ?_ ?_⟩
    · show [V.int (1 + d3 % ((2 : Nat) : Int))] = _
      rw [er3, show (1 : Int) + (r3 : Int) = ((1 + r3 : Nat) : Int) from by omega]
    · refine ⟨fun _ => 0, fun _ => 0, none, none, none, none, rfl, ?_, Amt.zero hY, fun _ _ _ => rfl⟩
      rw [St1_zero]
      refine (sit.same g1).vals (fun _ _ => rfl) fun v _ => ?_
      unfold cm
      rw [ite_self, ite_self, Int.add_zero, Int.add_zero]
    · rintro i σ G hi ⟨A, OV, v11, v12, v13, v14, rfl, st, am, hA⟩
      have hi2 : i < 2 := by omega
      have e0 : (0 : Int) + (i : Int) = (i : Int) := by omega
      have hgn : sp (2 + i) < Y.n := hY.lt (by omega)
      obtain ⟨vb, vnm, z1, z2⟩ := v3 _ hgn
      -- goal, number
      refine ⟨_, rfl, _, rfl, _, _, rfl, rfl, q0, _, _, _, rfl, rfl, SqL.of st.sps, at_of (j := 2 + i) (by show (2 : Int) + (0 + (i : Int)) = ((2 + i : Nat) : Int); omega) (lsI_get _ (by omega)), ?_⟩
      refine ⟨_, rfl, _, rfl, _, _, rfl, rfl, a, ns, _, rfl, st.sm.seq hs1, hs2, by omega, by omega, fun d4 G2 g2 hd4 => ?_⟩
      have st2 := st.same g2
      -- what is over
      refine ⟨_, rfl, _, _, rfl, rfl, ⟨by decide, by decide⟩, _, _, rfl, rfl, ⟨by decide, by decide, by decide⟩, _, _, rfl, rfl, _, _, rfl, by omega, by decide, fun r5 h50 h51 => ⟨_, _, rfl, rfl, (by show 2 ≤ sizeLine; decide), fun lx flx => ?_⟩⟩
      have h51 : r5 ≤ 99999999999 := h51
      have g3 := same_upd (o := .lst [V.int 0, V.int (1 + r5)]) flx
      have elx : upd G2 lx (.lst [V.int 0, V.int (1 + r5)]) lx = some (.lst [V.int 0, V.int (1 + r5)]) := upd_same
      have st3 := st2.same g3
      generalize upd G2 lx (.lst [V.int 0, V.int (1 + r5)]) = G3 at g3 elx st3 ⊢
      obtain ⟨b, hb0, hb1, hb2⟩ : ∃ b : Int, 0 ≤ b ∧ b ≤ 100000000000 ∧ atI [V.int 0, V.int (1 + r5)] (if decide (0 < d4 % 4) = true then 1 else 0) = some (V.int b) := by
        by_cases hc : 0 < d4 % 4
        · exact ⟨1 + r5, by omega, by omega, by rw [if_pos (decide_eq_true hc)]; rfl⟩
        · exact ⟨0, by decide, by decide, by rw [if_neg (by rw [decide_eq_false hc]; exact Bool.false_ne_true)]; rfl⟩
      refine ⟨_, rfl, _, _, rfl, rfl, (by show (0 : Int) < 4; decide), _, _, rfl, rfl, .inr ⟨_, rfl, lx, _, _, _, rfl, rfl, SqL.of elx, hb2, _, rfl, _, rfl, lo, _, _, _, rfl, rfl, st3.over, ixN_of e0 (by rw [lsI_len]; exact hi2), ?_⟩⟩
      rw [lsI_set]
      have st4 := st3.put_over (put OV i b)
      have ko : upd G3 lo (.lst (lsI 2 fun k => if k = i then b else OV k)) = upd G3 lo (.lst (lsI 2 (put OV i b))) := rfl
      rw [ko]
      generalize upd G3 lo (.lst (lsI 2 (put OV i b))) = G4 at st4 ⊢
      -- the amount
      obtain ⟨xs4, w1, w2, w3⟩ := id st4.vats
      obtain ⟨wb, wnm, y1, y2⟩ := w3 _ hgn
      refine ⟨_, rfl, _, rfl, lv, _, _, _, rfl, rfl, SqL.of w1, atI_nat y1, wb, _, _, _, rfl, rfl, SqT.of y2, at_of (j := 1) rfl rfl, _, rfl, _, rfl, lv, _, _, _, rfl, rfl, SqL.of w1, atI_nat y1, wb, _, _, _, rfl, rfl, SqT.of y2, at_of (j := 2) rfl rfl, _, _, rfl, rfl,
        _, rfl, _, rfl, lo, _, _, _, rfl, rfl, SqL.of st4.over, at_of (j := i) e0 (lsI_get _ hi2), _, _, rfl, rfl, ?_⟩
      have eb : put OV i b i = b := if_pos rfl
      show gName 14 (V.int (Y.room (sp (2 + i)) - Y.fill (sp (2 + i)) + put OV i b i)) _ _ _
      rw [eb]
      have am' := am.put hY hi2 hb0 hb1
      have ha0 := am'.a0 i hi2
      have ha3 := am'.a3 i hi2
      have ex : put A i (Y.room (sp (2 + i)) - Y.fill (sp (2 + i)) + b) i = Y.room (sp (2 + i)) - Y.fill (sp (2 + i)) + b := if_pos rfl
      rw [ex] at ha0 ha3
      have ecm := fun v => cm_put hY hi2 (Y.room (sp (2 + i)) - Y.fill (sp (2 + i)) + b) (hA i (Nat.le_refl _) hi2) v
      have est := St1_put Y tn A hi2 (Y.room (sp (2 + i)) - Y.fill (sp (2 + i)) + b) hA
      generalize Y.room (sp (2 + i)) - Y.fill (sp (2 + i)) + b = x at am' ha0 ha3 ex ecm est ⊢
      -- it is let on
      obtain ⟨ys4, u1, u2, u3⟩ := id st4.pipes
      have hpj : pj tn i < Y.m := by rw [hm]; exact pj_lt _ _
      refine ⟨_, rfl, _, rfl, _, rfl, _, rfl, lp, rfl, ⟨_, SqL.of u1⟩, fun D5 hD5 => lc_list (K := K) (a := lp) (xs := ys4) (fun j H' => Same G4 H' ∧ H' D5 = some (.lst (lsI j fun j => ((Y.pipe j).g : Int)))) ⟨same_upd hD5, upd_same⟩ (fun j H' _ z => SqL.of (z.1 _ _ u1)) ?_ ?_⟩
      · rintro j y H' hj ⟨sm, hd⟩
        have hjm : j < Y.m := by
          have z := (List.getElem?_eq_some_iff.mp hj).1
          omega
        obtain ⟨pa, pg, x1, x2, x3⟩ := u3 j hjm
        rw [x1] at hj
        cases hj
        refine ⟨rfl, ?_⟩
        refine iteT (B := True) ⟨_, rfl, pa, _, _, _, rfl, rfl, SqT.of (sm _ _ x2), at_of (j := 1) rfl rfl, _, hd, ?_, fun b o e => ?_, ?_⟩
        · rw [lsI_len]
          exact small1000 (by omega)
        · rw [upd_ne (ne_of_none e hD5)]
          exact sm _ _ e
        · rw [upd_same, lsI_snoc]
      rintro G5 ⟨g5, hd⟩
      rw [u2] at hd
      have st5 := st4.same g5
      have eg := hY.pg hi2
      refine ⟨.inl ⟨rfl, _, SqL.of hd⟩, _, rfl, D5, _, _, pj tn i, _, rfl, rfl, SqL.of hd, rfl, ?_, lsI_get _ hpj, ?_, ?_, ?_⟩
      · refine List.all_eq_true.mpr fun v hv => ?_
        obtain ⟨j, _, rfl⟩ := List.mem_map.mp hv
        rfl
      · rw [eg]
        exact beq_self_eq_true _
      · intro m z' hmm hz
        rw [lsI_get _ (by omega)] at hz
        cases hz
        refine beq_eq_false_iff_ne.mpr fun z => hY.pn hi2 (i := m) (by omega) (Nat.ne_of_lt hmm) ?_
        omega
      have es := hY.ps hi2
      have hh0 := St1_held hY (A := A) (sp 0)
      rw [if_pos rfl, hY.vs.f0] at hh0
      have c0 := am.a3 0 (by decide)
      have c1 := am.a3 1 (by decide)
      have hai := hA i (Nat.le_refl _) hi2
      have hsum : A 0 + A 1 ≤ 300000000000 := by
        have hk' : i = 0 ∨ i = 1 := by omega
        rcases hk' with rfl | rfl
        · have z := hA 0 (Nat.le_refl _) (by decide)
          omega
        · have z := hA 1 (Nat.le_refl _) (by decide)
          omega
      refine ⟨_, rfl, q0, _, _, _, rfl, rfl, SqL.of st5.sps, at_of (j := 0) rfl (lsI_get _ (by omega)), _, rfl, Y, O, p, lv, lh, St1 Y tn A, Y.fill, pj tn i, x, (St1 Y tn A).com, 0, ?_, st5.pl, yok, st5.vats, st5.ov_, st5.held, st5.oh, st5.vh, hpj, ha0, ?_, ?_, ?_, Int.le_refl _, St1_key hY hi2 hA, ?_, fun G6 pl6 hh6 k6 => ?_⟩
      · exact congrArg (fun z : Nat => [V.ref p, V.ref lv, V.ref lh, V.int (pj tn i : Int), V.int (z : Int), V.int x]) es.symm
      · rw [St1_used hY hi2, hai]
        show x ≤ 1000000000000 - 0
        omega
      · rw [es, hh0]
        omega
      · rw [tail_nil, List.append_nil]
      · rw [St1_com hY]
        exact Nat.lt_of_le_of_lt (two_len _ _ _ _) (by decide)
      have st6 := st5.let_ (S' := St1 Y tn (put A i x)) (hd' := (St1 Y tn (put A i x)).held) (by rw [← est]; exact pl6) (by rw [← est]; exact hh6) k6
      refine ⟨true, rfl, iteF (A := True) ?_⟩
      -- it will have come
      refine ⟨_, rfl, _, rfl, lc, _, _, _, rfl, rfl, SqL.of st6.come, atI_nat (lsI_get _ hgn), _, rfl, _, _, rfl, rfl, _, rfl, _, rfl, lc, _, _, _, rfl, rfl, st6.come, ixN_nat (by rw [lsI_len]; exact hgn), ?_⟩
      rw [lsI_set, lsI_congr (f := fun k => if k = sp (2 + i) then cm Y sp A (sp (2 + i)) + x else cm Y sp A k) (g := cm Y sp (put A i x)) fun v _ => ecm v]
      refine ⟨put A i x, put OV i b, _, _, _, _, rfl, st6.put_come _, am', fun j hj hj2 => ?_⟩
      have n : j ≠ i := by omega
      show (if j = i then x else A j) = 0
      rw [if_neg n]
      exact hA j (by omega) hj2
    · rintro σ G ⟨A, OV, v11, v12, v13, v14, rfl, st, am, hA⟩
      clear sit hA
      -- the first vat, as it is held
      have l0 := hY.lt (j := 0) (by decide)
      have l1' := hY.lt (j := 1) (by decide)
      refine ⟨_, rfl, _, rfl, q0, _, _, _, rfl, rfl, SqL.of st.sps, at_of (j := 0) rfl (lsI_get _ (by omega)), lh, _, _, _, rfl, rfl, SqL.of st.held, atI_nat (lsI_get _ l0), _, rfl, _, rfl, q0, _, _, _, rfl, rfl, SqL.of st.sps, at_of (j := 0) rfl (lsI_get _ (by omega)), lc, _, _, _, rfl, rfl, st.come, ixN_nat (by rw [lsI_len]; exact l0), ?_⟩
      rw [lsI_set]
      have st1 := st.put_come fun k => if k = sp 0 then (St1 Y tn A).held (sp 0) else cm Y sp A k
      generalize upd G lc (.lst (lsI Y.n fun k => if k = sp 0 then (St1 Y tn A).held (sp 0) else cm Y sp A k)) = G1 at st1 ⊢
      -- on to the moment of coming
      refine ⟨_, rfl, _, rfl, Y, O, p, St1 Y tn A, L, ?_, st1.pl, yok, fun j hj => St1_free hY am j hj, fun O2 G2 pl2 fr2 => ⟨true, rfl, iteF (A := True) ?_⟩⟩
      · rw [St1_t, Nat.zero_add]
        rfl
      obtain ⟨O3, st2, al2⟩ : ∃ O3, Sit C Y sp H q0 lv lp p lh lo lc G2 O3 (St2 Y tn L A) (St1 Y tn A).held OV (St2 Y tn L A).held ∧ ∀ b, O3 b → G2 b ≠ none :=
        ⟨_, (st1.on_to (S' := St2 Y tn L A) pl2 fr2).vals (hd' := (St1 Y tn A).held) (cv' := (St2 Y tn L A).held) (fun _ _ => rfl) fun v _ => (St2_held hY am v).symm, fun b z => z.2⟩
      refine ⟨_, rfl, _, rfl, _, rfl, Y, O3, p, lv, lc, St2 Y tn L A, Y.fill, rfl, st2.pl, yok, st2.vats, st2.come, fun G3 g3 => ⟨true, rfl, ?_⟩⟩
      have st3 := st2.same g3
      have al3 : ∀ b, G3 b = none → ¬ O3 b := fun b e z => al2 b z (g3.free e)
      -- the way, empty
      refine ⟨(by show 0 ≤ sizeLine; decide), fun wy fwy => ?_⟩
      have g4 := same_upd (o := .lst []) fwy
      have st4 := st3.same g4
      have ewy : upd G3 wy (.lst []) wy = some (.lst []) := upd_same
      have nwy := al3 wy fwy
      have wy0 : H wy = none := st3.sm.free fwy
      have nqw : q0 ≠ wy := ne_of_none st3.sps fwy
      have nvw : lv ≠ wy := ne_of_none st3.vats.choose_spec.1 fwy
      have npw : lp ≠ wy := ne_of_none st3.pipes.choose_spec.1 fwy
      have nhw : lh ≠ wy := ne_of_none st3.held fwy
      have now_ : lo ≠ wy := ne_of_none st3.over fwy
      have ncw : lc ≠ wy := ne_of_none st3.come fwy
      have al4 : ∀ b, upd G3 wy (.lst []) b = none → ¬ O3 b := fun b e => al3 b (g4.free e)
      generalize upd G3 wy (.lst []) = G4 at g4 st4 ewy al4 ⊢
      refine ⟨_, rfl, by decide, by decide, for_range (lo := 0) (n := 2) (fun i σ G => ∃ (O : Addr → Prop) (zs : List V) (v11 v12 v13 v14 v16 v17 : Option V), σ = [some (.ref a), some (.int (Y.n : Int)), some (.ref q0), some (.ref lv), some (.int (L : Int)), some (.ref ll), some (.ref lp), some (.ref p), some (.ref lh), some (.ref lo), some (.ref lc), v11, v12, v13, v14, some (.ref wy), v16, v17, none, none] ∧
        Sit C Y sp H q0 lv lp p lh lo lc G O (stK Y tn L A OV i) (St1 Y tn A).held OV (stK Y tn L A OV i).held ∧ (∀ b, G b = none → ¬ O b) ∧ G wy = some (.lst zs) ∧ ¬ O wy ∧ Tris G zs (stK Y tn L A OV i).com) ?_ ?_ ?_⟩
      · refine ⟨O3, [], _, _, _, _, _, _, rfl, st4, al4, ewy, nwy, ?_⟩
        show Tris G4 [] (St2 Y tn L A).com
        rw [St2_com hY]
        exact .nil
      · rintro i σ G hi2 ⟨O, zs, v11, v12, v13, v14, v16, v17, rfl, st, al, hw, nw, htr⟩
        have e0 : (0 : Int) + (i : Int) = (i : Int) := by omega
        have hov0 := am.v0 i hi2
        have hov1 := am.v1 i hi2
        -- some
        refine ⟨_, rfl, _, rfl, _, _, rfl, rfl, a, ns, _, rfl, st.sm.seq hs1, hs2, by omega, by omega, fun d6 G5 g5 _ => ?_⟩
        have st5 := st.same g5
        refine ⟨_, rfl, _, rfl, lo, _, _, _, rfl, rfl, SqL.of st5.over, at_of (j := i) e0 (lsI_get _ hi2), _, _, rfl, rfl, _, _, rfl, rfl, by omega, ?_⟩
        have hx0 := Int.emod_nonneg d6 (show OV i + 1 ≠ 0 by omega)
        have hx1 := Int.emod_lt_of_pos d6 (show 0 < OV i + 1 by omega)
        show gName 16 (V.int (d6 % (OV i + 1))) _ _ _
        generalize d6 % (OV i + 1) = x at hx0 hx1 ⊢
        -- parts
        refine ⟨_, rfl, _, rfl, _, rfl, lo, _, _, _, rfl, rfl, SqL.of st5.over, at_of (j := i) e0 (lsI_get _ hi2), _, rfl, _, _, rfl, rfl, (by show 3 ≤ sizeLine; decide), fun pr fpr => ?_⟩
        have g6 := same_upd (o := .lst [V.int 0, V.int x, V.int (OV i - x)]) fpr
        have st6 := st5.same g6
        have epr : upd G5 pr (.lst [V.int 0, V.int x, V.int (OV i - x)]) pr = some (.lst ([0, x, OV i - x].map V.int)) := upd_same
        have npr : ¬ O pr := al pr (g5.free fpr)
        have hw6 := g6 _ _ (g5 _ _ hw)
        have htr6 := (htr.same g5).same g6
        have nprc : pr ≠ lc := fun z => by
          rw [z, st5.come] at fpr
          cases fpr
        generalize upd G5 pr (.lst [V.int 0, V.int x, V.int (OV i - x)]) = G6 at g6 st6 epr hw6 htr6 ⊢
        have hpj : pj tn (2 + i) < Y.m := by rw [hm]; exact pj_lt _ _
        have eqs := hY.qs hi2
        have eql := hY.ql hi2
        have et := stK_t (Y := Y) (tn := tn) (L := L) (A := A) (V := OV) i
        have esum : ([0, x, OV i - x] : List Int).sum = OV i := by
          show (0 : Int) + (x + (OV i - x + 0)) = OV i
          omega
        have hfi := (hY.vs.mid i hi2).1
        -- it is emptied
        refine ⟨_, rfl, _, rfl, _, rfl, _, rfl, _, rfl, _, rfl, _, _, rfl, rfl, q0, _, _, _, rfl, rfl, SqL.of st6.sps, at_of (j := 2 + i) (by show (2 : Int) + (0 + (i : Int)) = ((2 + i : Nat) : Int); omega) (lsI_get _ (by omega)), _, rfl, _, rfl, _, rfl, Y, O, p, lv, lp, lc, pr, wy, stK Y tn L A OV i, Y.fill, pj tn (2 + i), [0, x, OV i - x], zs, ?_,
          st6.pl, yok, st6.vats, st6.ov_, st6.pipes, st6.op_, st6.come, st6.oc, epr, npr, hw6, nw, htr6, st6.vc, st6.pc, nprc, Ne.symm ncw, hpj, fun j hj => ?_, fun z hz => ?_, ?_, ?_, by show 3 ≤ 100; decide, stK_key hY hi2, ?_, stK_bd hY am hi2, ?_, fun G7 zs' pl7 hc7 hw7 tr7 k7 => ?_⟩
        · rw [eqs, et]
          rfl
        · rw [eqs]
          exact hY.qn hi2 (by omega) (Nat.ne_of_lt hj)
        · rcases (List.mem_cons).mp hz with rfl | hz
          · exact Int.le_refl _
          rcases (List.mem_cons).mp hz with rfl | hz
          · exact hx0
          rw [List.mem_singleton.mp hz]
          omega
        · rw [esum, stK_used hY hi2]
          show OV i ≤ 1000000000000 - 0
          omega
        · have z := am.va i hi2
          rw [esum, eqs, stK_held hY am hi2]
          omega
        · exact Nat.lt_of_le_of_lt (stK_len hY hi2) (by decide)
        · rw [esum, et, eql]
          exact ov_bd hY am hi2
        have eS : letS Y (stK Y tn L A OV i) (pj tn (2 + i)) ([0, x, OV i - x] : List Int).sum (stK Y tn L A OV i).com 0 = stK Y tn L A OV (i + 1) := by
          rw [esum, stK_succ hi2]
          rfl
        rw [eS] at pl7 hc7 tr7
        have st7 := (st6.chgW wy0 nqw nvw npw hw6 pl7 (fun _ _ _ n => n) (fun b o e t _ _ n3 n4 => k7 b o e n3 n4 t) (k7 _ _ st6.held st6.hc nhw fun z => absurd z st6.oh) (k7 _ _ st6.over st6.oc_ now_ fun z => absurd z st6.oo) hc7).shrink
        exact ⟨true, rfl, _, zs', _, _, _, _, _, _, rfl, st7, fun b e z => z.2 e, hw7, fun z => nw z.1, tr7⟩
      · rintro σ G ⟨O, zs, v11, v12, v13, v14, v16, v17, rfl, st, al, hw, nw, htr⟩
        have st : Sit C Y sp H q0 lv lp p lh lo lc G O (St4 Y tn L A OV) (St1 Y tn A).held OV (St4 Y tn L A OV).held := st
        -- 21 moments more
        refine ⟨_, rfl, _, rfl, _, rfl, _, _, rfl, rfl, Y, O, p, St4 Y tn L A OV, 21, ?_, st.pl, yok, fun j _ => St4_free hY am j, fun O5 G5 pl5 fr5 => ⟨true, rfl, iteF (A := True) ?_⟩⟩
        · rw [St4_t]
          rfl
        have st5 := st.on_to (S' := St5 Y tn L A OV) pl5 fr5
        -- the last vat has got what was over
        refine ⟨_, rfl, lo, _, _, _, rfl, rfl, SqL.of st5.over, at_of (j := 0) rfl (lsI_get _ (by decide)), _, rfl, lo, _, _, _, rfl, rfl, SqL.of st5.over, at_of (j := 1) rfl (lsI_get _ (by decide)), _, _, rfl, rfl, _, rfl, _, rfl, q0, _, _, _, rfl, rfl, SqL.of st5.sps, at_of (j := 1) rfl (lsI_get _ (by omega)), lc, _, _, _, rfl, rfl, st5.come, ixN_nat (by rw [lsI_len]; exact l1'), ?_⟩
        rw [lsI_set]
        have st6 := (st5.put_come fun k => if k = sp 1 then OV 0 + OV 1 else (St4 Y tn L A OV).held k).vals (hd' := (St1 Y tn A).held) (cv' := (St5 Y tn L A OV).held) (fun _ _ => rfl) fun v hv => St5_held hY am v hv
        have ko : upd G5 lc (.lst (lsI Y.n fun k => if k = sp 1 then (fun i j => i + j) (OV 0) (OV 1) else (St4 Y tn L A OV).held k)) = upd G5 lc (.lst (lsI Y.n fun k => if k = sp 1 then OV 0 + OV 1 else (St4 Y tn L A OV).held k)) := rfl
        generalize upd G5 lc (.lst (lsI Y.n fun k => if k = sp 1 then OV 0 + OV 1 else (St4 Y tn L A OV).held k)) = G6 at st6 ⊢
        -- the two last answers
        obtain ⟨lv6, lp6, lh6, lu6, dc6, c6, _⟩ := st6.pl.core
        obtain ⟨dx6, ob6⟩ := c6.ob
        refine ⟨_, rfl, _, rfl, _, rfl, Y, _, p, lv, lc, St5 Y tn L A OV, Y.fill, rfl, st6.pl, yok, st6.vats, st6.come, fun G7 g7 => ⟨true, rfl, iteT (B := True) ?_⟩⟩
        refine ⟨_, rfl, p, dx6, _, rfl, g7 _ _ ob6, pf_no _ _ _ _ _ _ (by decide +kernel), Y, _, p, St5 Y tn L A OV, rfl, st6.pl.same g7, ?_, ?_, fun u G8 us g8 fu hu htu => ⟨(by show 0 ≤ sizeLine; decide), fun z fz => ?_⟩⟩
        · rw [St5_com hY]
          intro e he
          exact absurd he List.not_mem_nil
        · rw [St5_com hY]
          decide
        have eu : us = [] := by
          have z := tris_len htu
          rw [(srt_perm _).length_eq, St5_com hY] at z
          exact List.length_eq_zero_iff.mp z
        subst eu
        refine ⟨_, _, .lst (SqL.of (same_upd fz _ _ hu)) .nil, .lst (SqL.of upd_same) .nil, shaped_ints [], shaped_ints [], ?_⟩
        exact q _
end
end Vy

/-! VyEnd: what the top has left, gathered. -/
namespace Vy
open PyProof.Rows PySem PySem.Spec L2
theorem kit_own {K : PySem.W.Frag} {D C : Addr} {b : Bool} (h1 : PySem.W.hasDictIn K C = true) (h2 : PySem.W.typeIn K (.ref C) = some (.type "type")) (h3 : PySem.W.subIn K (.ref D) (.ref C) = some b) (h4 : PySem.W.subIn K (.ref D) (.ref D) = some true) : PySem.W.kitOne K (.ref D) (.ref C) = some b := by
  have e2 : ((PySem.W.clsIn K C).isSome && PySem.W.typeIn K (.ref C) == some (.type "type")) = true := by
    obtain ⟨cd, hc, _⟩ := PySem.W.any_some h1
    rw [hc, h2]
    rfl
  unfold PySem.W.kitOne
  split
  · rename_i e
    have e := eq_of_beq e
    rw [← e, h4] at h3
    exact h3
  · show (if ((PySem.W.clsIn K C).isSome && PySem.W.typeIn K (.ref C) == some (.type "type")) = true then PySem.W.subIn K (.ref D) (.ref C) else none) = some b
    rw [if_pos e2]
    exact h3
theorem kit_type {K : PySem.W.Frag} {D : Addr} {b : Bool} (h : PySem.W.subIn K (.ref D) (.type "ValueError") = some b) : PySem.W.kitOne K (.ref D) (.type "ValueError") = some b := by
  have e : (Value.ref D == Value.type "ValueError") = false := rfl
  unfold PySem.W.kitOne
  rw [e]
  show (if PySem.W.kitMeta "ValueError" = true then PySem.W.subIn K (.ref D) (.type "ValueError") else none) = some b
  rw [if_pos (by decide +kernel)]
  exact h
theorem Df.mk1 {P : Program} {w : World} {K : PySem.W.Frag} {mg : Str → Option Value} {base : Heap} {CX : CXT} {k : Nat} {x : Str} {ps : List Str} {sp : Sp} {f : Addr} {fd : FuncData} (F : FnOk P w K mg base CX k f fd ps sp) (m : mg x = some (.ref f)) (h : PySem.W.keepIn K (.ref f) = true) (b : Binds K fd ps []) : Df P w K mg base CX k x ps sp := ⟨⟨f, fd, F, m, h, b⟩⟩
theorem Md.mk1 {P : Program} {w : World} {K : PySem.W.Frag} {mg : Str → Option Value} {base : Heap} {CX : CXT} {k : Nat} {C : Addr} {m : Str} {ps : List Str} {sp : Sp} {f : Addr} {fd : FuncData} (F : FnOk P w K mg base CX k f fd ps sp) (h : Meth K C m f) (b : Binds K fd ps []) (c : Cls K C) : Md P w K mg base CX k C m ps sp := ⟨⟨f, fd, F, h, b, c⟩⟩
theorem all_mk {l : PySem.W.OpenLaw} {w : World} {K : PySem.W.Frag} {h : Heap} {mg : Str → Option Value} {fa CS CP EY Ec1 Ec2 Ec3 Ec4 Ec5 Ec6 Ec7 Ec8 EF f1 f2 f3 f4 f5 f6 f7 f8 f9 f10 f11 f12 f13 f14 f15 f16 f17 f18 f19 f20 f21 f22 f23 f24 f25 : Addr} (X : K.In h) (G : h.Ns mainGlobals mg) (hfa : mg "law" = some (.ref fa))
    {od1 an1 od2 an2 od3 an3 od4 an4 od5 an5 od6 an6 od7 an7 od8 an8 od9 an9 od10 an10 od11 an11 od12 an12 od13 an13 od14 an14 od15 an15 od16 an16 od17 an17 od18 an18 od19 an19 od20 an20 od21 an21 od22 an22 od23 an23 od24 an24 od25 an25 : Option Addr} {sl1 sl2 sl3 sl4 sl5 sl6 sl7 sl8 sl9 sl10 sl11 sl12 sl13 sl14 sl15 sl16 sl17 sl18 sl19 sl20 sl21 sl22 sl23 sl24 sl25 : Array (Option Value)}
    {oc1 kV1 dc1 pm1 cd1 ct1 oc2 kV2 dc2 pm2 cd2 ct2 oc3 kV3 dc3 pm3 cd3 ct3 oc4 kV4 dc4 pm4 cd4 ct4 oc5 kV5 dc5 pm5 cd5 ct5 oc6 kV6 dc6 pm6 cd6 ct6 oc7 kV7 dc7 pm7 cd7 ct7 oc8 kV8 dc8 pm8 cd8 ct8 oc9 kV9 dc9 pm9 cd9 ct9 oc10 kV10 dc10 pm10 cd10 ct10 oc11 kV11 dc11 pm11 cd11 ct11 oc12 kV12 dc12 pm12 cd12 ct12 oc13 kV13 dc13 pm13 cd13 ct13 oc14 kV14 dc14 pm14 cd14 ct14 oc15 kV15 dc15 pm15 cd15 ct15 oc16 kV16 dc16 pm16 cd16 ct16 oc17 kV17 dc17 pm17 cd17 ct17 oc18 kV18 dc18 pm18 cd18 ct18 oc19 kV19 dc19 pm19 cd19 ct19 oc20 kV20 dc20 pm20 cd20 ct20 oc21 kV21 dc21 pm21 cd21 ct21 oc22 kV22 dc22 pm22 cd22 ct22 oc23 kV23 dc23 pm23 cd23 ct23 oc24 kV24 dc24 pm24 cd24 ct24 oc25 kV25 dc25 pm25 cd25 ct25 : Value}
    (gF : PySem.W.nsIn K mainGlobals "TooFull" = some (some (.ref EF)))
    (aS : PySem.W.nsIn K mainGlobals "Steady" = some (some (.ref CS)))
    (aP : PySem.W.nsIn K mainGlobals "Play" = some (some (.ref CP)))
    (a1 : PySem.W.findIn K (.ref CS) "__init__" = some (some (.ref f1)))
    (i1 : PySem.W.isFn K (.ref f1) = true)
    (l1 : K.lookup f1 = some ⟨oc1, od1, .func (PySem.W.fnOf "__init__" "Steady.__init__" (defArgs sSI) (defBody sSI) (defScope sSI) .none kV1 dc1 pm1 an1 cd1 ct1), sl1⟩)
    (p1 : PySem.W.codeIn K cd1 "Steady.__init__" = true)
    (k1 : PySem.W.keepIn K (.ref f1) = true)
    (a2 : PySem.W.findIn K (.ref CS) "width_at" = some (some (.ref f2)))
    (i2 : PySem.W.isFn K (.ref f2) = true)
    (l2 : K.lookup f2 = some ⟨oc2, od2, .func (PySem.W.fnOf "width_at" "Steady.width_at" (defArgs sWA) (defBody sWA) (defScope sWA) .none kV2 dc2 pm2 an2 cd2 ct2), sl2⟩)
    (p2 : PySem.W.codeIn K cd2 "Steady.width_at" = true)
    (k2 : PySem.W.keepIn K (.ref f2) = true)
    (a3 : PySem.W.nsIn K mainGlobals "gate_of" = some (some (.ref f3)))
    (l3 : K.lookup f3 = some ⟨oc3, od3, .func (PySem.W.fnOf "gate_of" "gate_of" (defArgs sGO) (defBody sGO) (defScope sGO) .none kV3 dc3 pm3 an3 cd3 ct3), sl3⟩)
    (p3 : PySem.W.codeIn K cd3 "gate_of" = true)
    (k3 : PySem.W.keepIn K (.ref f3) = true)
    (a4 : PySem.W.nsIn K mainGlobals "width" = some (some (.ref f4)))
    (l4 : K.lookup f4 = some ⟨oc4, od4, .func (PySem.W.fnOf "width" "width" (defArgs sWI) (defBody sWI) (defScope sWI) .none kV4 dc4 pm4 an4 cd4 ct4), sl4⟩)
    (p4 : PySem.W.codeIn K cd4 "width" = true)
    (k4 : PySem.W.keepIn K (.ref f4) = true)
    (a5 : PySem.W.findIn K (.ref CP) "__init__" = some (some (.ref f5)))
    (i5 : PySem.W.isFn K (.ref f5) = true)
    (l5 : K.lookup f5 = some ⟨oc5, od5, .func (PySem.W.fnOf "__init__" "Play.__init__" (defArgs sPI) (defBody sPI) (defScope sPI) .none kV5 dc5 pm5 an5 cd5 ct5), sl5⟩)
    (p5 : PySem.W.codeIn K cd5 "Play.__init__" = true)
    (k5 : PySem.W.keepIn K (.ref f5) = true)
    (a6 : PySem.W.findIn K (.ref CP) "now" = some (some (.ref f6)))
    (i6 : PySem.W.isFn K (.ref f6) = true)
    (l6 : K.lookup f6 = some ⟨oc6, od6, .func (PySem.W.fnOf "now" "Play.now" (defArgs sNow) (defBody sNow) (defScope sNow) .none kV6 dc6 pm6 an6 cd6 ct6), sl6⟩)
    (p6 : PySem.W.codeIn K cd6 "Play.now" = true)
    (k6 : PySem.W.keepIn K (.ref f6) = true)
    (a7 : PySem.W.findIn K (.ref CP) "holds" = some (some (.ref f7)))
    (i7 : PySem.W.isFn K (.ref f7) = true)
    (l7 : K.lookup f7 = some ⟨oc7, od7, .func (PySem.W.fnOf "holds" "Play.holds" (defArgs sHolds) (defBody sHolds) (defScope sHolds) .none kV7 dc7 pm7 an7 cd7 ct7), sl7⟩)
    (p7 : PySem.W.codeIn K cd7 "Play.holds" = true)
    (k7 : PySem.W.keepIn K (.ref f7) = true)
    (a8 : PySem.W.findIn K (.ref CP) "under_way" = some (some (.ref f8)))
    (i8 : PySem.W.isFn K (.ref f8) = true)
    (l8 : K.lookup f8 = some ⟨oc8, od8, .func (PySem.W.fnOf "under_way" "Play.under_way" (defArgs sUnder) (defBody sUnder) (defScope sUnder) .none kV8 dc8 pm8 an8 cd8 ct8), sl8⟩)
    (p8 : PySem.W.codeIn K cd8 "Play.under_way" = true)
    (k8 : PySem.W.keepIn K (.ref f8) = true)
    (a9 : PySem.W.findIn K (.ref CP) "room_in" = some (some (.ref f9)))
    (i9 : PySem.W.isFn K (.ref f9) = true)
    (l9 : K.lookup f9 = some ⟨oc9, od9, .func (PySem.W.fnOf "room_in" "Play.room_in" (defArgs sRoom) (defBody sRoom) (defScope sRoom) .none kV9 dc9 pm9 an9 cd9 ct9), sl9⟩)
    (p9 : PySem.W.codeIn K cd9 "Play.room_in" = true)
    (k9 : PySem.W.keepIn K (.ref f9) = true)
    (a10 : PySem.W.findIn K (.ref CP) "full" = some (some (.ref f10)))
    (i10 : PySem.W.isFn K (.ref f10) = true)
    (l10 : K.lookup f10 = some ⟨oc10, od10, .func (PySem.W.fnOf "full" "Play.full" (defArgs sFull) (defBody sFull) (defScope sFull) .none kV10 dc10 pm10 an10 cd10 ct10), sl10⟩)
    (p10 : PySem.W.codeIn K cd10 "Play.full" = true)
    (k10 : PySem.W.keepIn K (.ref f10) = true)
    (a11 : PySem.W.findIn K (.ref CP) "let" = some (some (.ref f11)))
    (i11 : PySem.W.isFn K (.ref f11) = true)
    (l11 : K.lookup f11 = some ⟨oc11, od11, .func (PySem.W.fnOf "let" "Play.let" (defArgs sLet) (defBody sLet) (defScope sLet) .none kV11 dc11 pm11 an11 cd11 ct11), sl11⟩)
    (p11 : PySem.W.codeIn K cd11 "Play.let" = true)
    (k11 : PySem.W.keepIn K (.ref f11) = true)
    (a12 : PySem.W.findIn K (.ref CP) "go_on" = some (some (.ref f12)))
    (i12 : PySem.W.isFn K (.ref f12) = true)
    (l12 : K.lookup f12 = some ⟨oc12, od12, .func (PySem.W.fnOf "go_on" "Play.go_on" (defArgs sGoOn) (defBody sGoOn) (defScope sGoOn) .none kV12 dc12 pm12 an12 cd12 ct12), sl12⟩)
    (p12 : PySem.W.codeIn K cd12 "Play.go_on" = true)
    (k12 : PySem.W.keepIn K (.ref f12) = true)
    (a13 : PySem.W.nsIn K mainGlobals "_law_draw" = some (some (.ref f13)))
    (l13 : K.lookup f13 = some ⟨oc13, od13, .func (PySem.W.fnOf "_law_draw" "_law_draw" (defArgs sDraw) (defBody sDraw) (defScope sDraw) .none kV13 dc13 pm13 an13 cd13 ct13), sl13⟩)
    (p13 : PySem.W.codeIn K cd13 "_law_draw" = true)
    (k13 : PySem.W.keepIn K (.ref f13) = true)
    (a14 : PySem.W.nsIn K mainGlobals "_law_part" = some (some (.ref f14)))
    (l14 : K.lookup f14 = some ⟨oc14, od14, .func (PySem.W.fnOf "_law_part" "_law_part" (defArgs sPart) (defBody sPart) (defScope sPart) .none kV14 dc14 pm14 an14 cd14 ct14), sl14⟩)
    (p14 : PySem.W.codeIn K cd14 "_law_part" = true)
    (k14 : PySem.W.keepIn K (.ref f14) = true)
    (a15 : PySem.W.nsIn K mainGlobals "_law_whole" = some (some (.ref f15)))
    (l15 : K.lookup f15 = some ⟨oc15, od15, .func (PySem.W.fnOf "_law_whole" "_law_whole" (defArgs sWhole) (defBody sWhole) (defScope sWhole) .none kV15 dc15 pm15 an15 cd15 ct15), sl15⟩)
    (p15 : PySem.W.codeIn K cd15 "_law_whole" = true)
    (k15 : PySem.W.keepIn K (.ref f15) = true)
    (a16 : PySem.W.nsIn K mainGlobals "_law_wholes" = some (some (.ref f16)))
    (l16 : K.lookup f16 = some ⟨oc16, od16, .func (PySem.W.fnOf "_law_wholes" "_law_wholes" (defArgs sWholes) (defBody sWholes) (defScope sWholes) .none kV16 dc16 pm16 an16 cd16 ct16), sl16⟩)
    (p16 : PySem.W.codeIn K cd16 "_law_wholes" = true)
    (k16 : PySem.W.keepIn K (.ref f16) = true)
    (a17 : PySem.W.nsIn K mainGlobals "_law_spots" = some (some (.ref f17)))
    (l17 : K.lookup f17 = some ⟨oc17, od17, .func (PySem.W.fnOf "_law_spots" "_law_spots" (defArgs sSpots) (defBody sSpots) (defScope sSpots) .none kV17 dc17 pm17 an17 cd17 ct17), sl17⟩)
    (p17 : PySem.W.codeIn K cd17 "_law_spots" = true)
    (k17 : PySem.W.keepIn K (.ref f17) = true)
    (a18 : PySem.W.nsIn K mainGlobals "_law_vats" = some (some (.ref f18)))
    (l18 : K.lookup f18 = some ⟨oc18, od18, .func (PySem.W.fnOf "_law_vats" "_law_vats" (defArgs sVats) (defBody sVats) (defScope sVats) .none kV18 dc18 pm18 an18 cd18 ct18), sl18⟩)
    (p18 : PySem.W.codeIn K cd18 "_law_vats" = true)
    (k18 : PySem.W.keepIn K (.ref f18) = true)
    (a19 : PySem.W.nsIn K mainGlobals "_law_pipes" = some (some (.ref f19)))
    (l19 : K.lookup f19 = some ⟨oc19, od19, .func (PySem.W.fnOf "_law_pipes" "_law_pipes" (defArgs sPipes) (defBody sPipes) (defScope sPipes) .none kV19 dc19 pm19 an19 cd19 ct19), sl19⟩)
    (p19 : PySem.W.codeIn K cd19 "_law_pipes" = true)
    (k19 : PySem.W.keepIn K (.ref f19) = true)
    (a20 : PySem.W.nsIn K mainGlobals "_law_full" = some (some (.ref f20)))
    (l20 : K.lookup f20 = some ⟨oc20, od20, .func (PySem.W.fnOf "_law_full" "_law_full" (defArgs sFullW) (defBody sFullW) (defScope sFullW) .none kV20 dc20 pm20 an20 cd20 ct20), sl20⟩)
    (p20 : PySem.W.codeIn K cd20 "_law_full" = true)
    (k20 : PySem.W.keepIn K (.ref f20) = true)
    (a21 : PySem.W.nsIn K mainGlobals "_law_refused" = some (some (.ref f21)))
    (l21 : K.lookup f21 = some ⟨oc21, od21, .func (PySem.W.fnOf "_law_refused" "_law_refused" (defArgs sRef) (defBody sRef) (defScope sRef) .none kV21 dc21 pm21 an21 cd21 ct21), sl21⟩)
    (p21 : PySem.W.codeIn K cd21 "_law_refused" = true)
    (k21 : PySem.W.keepIn K (.ref f21) = true)
    (a22 : PySem.W.nsIn K mainGlobals "_law_on_to" = some (some (.ref f22)))
    (l22 : K.lookup f22 = some ⟨oc22, od22, .func (PySem.W.fnOf "_law_on_to" "_law_on_to" (defArgs sOnTo) (defBody sOnTo) (defScope sOnTo) .none kV22 dc22 pm22 an22 cd22 ct22), sl22⟩)
    (p22 : PySem.W.codeIn K cd22 "_law_on_to" = true)
    (k22 : PySem.W.keepIn K (.ref f22) = true)
    (a23 : PySem.W.nsIn K mainGlobals "_law_let_on" = some (some (.ref f23)))
    (l23 : K.lookup f23 = some ⟨oc23, od23, .func (PySem.W.fnOf "_law_let_on" "_law_let_on" (defArgs sLetOn) (defBody sLetOn) (defScope sLetOn) .none kV23 dc23 pm23 an23 cd23 ct23), sl23⟩)
    (p23 : PySem.W.codeIn K cd23 "_law_let_on" = true)
    (k23 : PySem.W.keepIn K (.ref f23) = true)
    (a24 : PySem.W.nsIn K mainGlobals "_law_emptied" = some (some (.ref f24)))
    (l24 : K.lookup f24 = some ⟨oc24, od24, .func (PySem.W.fnOf "_law_emptied" "_law_emptied" (defArgs sEmp) (defBody sEmp) (defScope sEmp) .none kV24 dc24 pm24 an24 cd24 ct24), sl24⟩)
    (p24 : PySem.W.codeIn K cd24 "_law_emptied" = true)
    (k24 : PySem.W.keepIn K (.ref f24) = true)
    (a25 : PySem.W.nsIn K mainGlobals "law" = some (some (.ref f25)))
    (l25 : K.lookup f25 = some ⟨oc25, od25, .func (PySem.W.fnOf "law" "law" (defArgs sLaw) (defBody sLaw) (defScope sLaw) .none kV25 dc25 pm25 an25 cd25 ct25), sl25⟩)
    (p25 : PySem.W.codeIn K cd25 "law" = true)
    (k25 : PySem.W.keepIn K (.ref f25) = true)
    (pgS : PySem.W.plainGet K CS Str.empty = true)
    (hdS : PySem.W.hasDictIn K CS = true)
    (poS : PySem.W.plainOver K CS = true)
    (saS : PySem.W.findIn K (.ref CS) "__setattr__" = some (some (.builtin "object.__setattr__")))
    (mkS : PySem.W.makesIn K CS = true)
    (kcS : PySem.W.keepIn K (.ref CS) = true)
    (pgP : PySem.W.plainGet K CP Str.empty = true)
    (hdP : PySem.W.hasDictIn K CP = true)
    (poP : PySem.W.plainOver K CP = true)
    (saP : PySem.W.findIn K (.ref CP) "__setattr__" = some (some (.builtin "object.__setattr__")))
    (mkP : PySem.W.makesIn K CP = true)
    (kcP : PySem.W.keepIn K (.ref CP) = true)
    (nMo : PySem.W.findIn K (.ref CS) "most" = some none)
    (nV : PySem.W.findIn K (.ref CP) "vats" = some none)
    (nP : PySem.W.findIn K (.ref CP) "pipes" = some none)
    (nM : PySem.W.findIn K (.ref CP) "moment" = some none)
    (nH : PySem.W.findIn K (.ref CP) "held" = some none)
    (nU : PySem.W.findIn K (.ref CP) "used" = some none)
    (nC : PySem.W.findIn K (.ref CP) "coming" = some none)
    (gY : PySem.W.nsIn K mainGlobals "YardError" = some (some (.ref EY)))
    (hxY : PySem.W.hasDictIn K EY = true)
    (tyY : PySem.W.typeIn K (.ref EY) = some (.type "type"))
    (sbY : PySem.W.subIn K (.ref EF) (.ref EY) = some true)
    (gc1 : PySem.W.nsIn K mainGlobals "NoPipe" = some (some (.ref Ec1)))
    (hxc1 : PySem.W.hasDictIn K Ec1 = true)
    (tyc1 : PySem.W.typeIn K (.ref Ec1) = some (.type "type"))
    (sbc1 : PySem.W.subIn K (.ref EF) (.ref Ec1) = some false)
    (gc2 : PySem.W.nsIn K mainGlobals "NoAmount" = some (some (.ref Ec2)))
    (hxc2 : PySem.W.hasDictIn K Ec2 = true)
    (tyc2 : PySem.W.typeIn K (.ref Ec2) = some (.type "type"))
    (sbc2 : PySem.W.subIn K (.ref EF) (.ref Ec2) = some false)
    (gc3 : PySem.W.nsIn K mainGlobals "TooWide" = some (some (.ref Ec3)))
    (hxc3 : PySem.W.hasDictIn K Ec3 = true)
    (tyc3 : PySem.W.typeIn K (.ref Ec3) = some (.type "type"))
    (sbc3 : PySem.W.subIn K (.ref EF) (.ref Ec3) = some false)
    (gc4 : PySem.W.nsIn K mainGlobals "TooLittle" = some (some (.ref Ec4)))
    (hxc4 : PySem.W.hasDictIn K Ec4 = true)
    (tyc4 : PySem.W.typeIn K (.ref Ec4) = some (.type "type"))
    (sbc4 : PySem.W.subIn K (.ref EF) (.ref Ec4) = some false)
    (gc5 : PySem.W.nsIn K mainGlobals "NoMoment" = some (some (.ref Ec5)))
    (hxc5 : PySem.W.hasDictIn K Ec5 = true)
    (tyc5 : PySem.W.typeIn K (.ref Ec5) = some (.type "type"))
    (sbc5 : PySem.W.subIn K (.ref EF) (.ref Ec5) = some false)
    (gc6 : PySem.W.nsIn K mainGlobals "NoRow" = some (some (.ref Ec6)))
    (hxc6 : PySem.W.hasDictIn K Ec6 = true)
    (tyc6 : PySem.W.typeIn K (.ref Ec6) = some (.type "type"))
    (sbc6 : PySem.W.subIn K (.ref EF) (.ref Ec6) = some false)
    (gc7 : PySem.W.nsIn K mainGlobals "NoName" = some (some (.ref Ec7)))
    (hxc7 : PySem.W.hasDictIn K Ec7 = true)
    (tyc7 : PySem.W.typeIn K (.ref Ec7) = some (.type "type"))
    (sbc7 : PySem.W.subIn K (.ref EF) (.ref Ec7) = some false)
    (gc8 : PySem.W.nsIn K mainGlobals "NoMeasure" = some (some (.ref Ec8)))
    (hxc8 : PySem.W.hasDictIn K Ec8 = true)
    (tyc8 : PySem.W.typeIn K (.ref Ec8) = some (.type "type"))
    (sbc8 : PySem.W.subIn K (.ref EF) (.ref Ec8) = some false)
    (hxF : PySem.W.hasDictIn K EF = true)
    (tyF : PySem.W.typeIn K (.ref EF) = some (.type "type"))
    (sbF : PySem.W.subIn K (.ref EF) (.ref EF) = some true)
    (xF : PySem.W.excIn K EF [.type "ValueError", .type "Exception", .type "BaseException", .type "object"] "ValueError.__new__" = true)
    (kF : PySem.W.keepIn K (.ref EF) = true)
    (bF : PySem.W.subIn K (.ref EF) (.type "BaseException") = some true)
    (bY : PySem.W.subIn K (.ref EY) (.type "BaseException") = some true)
    (vF : PySem.W.subIn K (.ref EF) (.type "ValueError") = some true)
    (xg : PySem.W.findIn K (.ref EF) "__getattribute__" = some (some (.builtin "BaseException.__getattribute__")))
    (xk : PySem.W.findIn K (.ref EF) "__getattr__" = some none)
    (xa : PySem.W.findIn K (.ref EF) "__class__" = some (some (.builtin "object.__class__")))
    (xn : PySem.W.specialIn K (.builtin "object.__class__") "__get__" = some (some (.builtin "getset_descriptor.__get__")))
    (xt : PySem.W.takesIn K (.builtin "object.__class__") = some true)
    (xm : PySem.W.mroIn K EF (.type "object") = some true)
    (z_len : PySem.W.nsIn K mainGlobals "len" = some none)
    (z_list : PySem.W.nsIn K mainGlobals "list" = some none)
    (z_enumerate : PySem.W.nsIn K mainGlobals "enumerate" = some none)
    (z_sorted : PySem.W.nsIn K mainGlobals "sorted" = some none)
    (z_range : PySem.W.nsIn K mainGlobals "range" = some none)
    (z_min : PySem.W.nsIn K mainGlobals "min" = some none)
    (z_isinstance : PySem.W.nsIn K mainGlobals "isinstance" = some none)
    (z_int : PySem.W.nsIn K mainGlobals "int" = some none)
    (z_bool : PySem.W.nsIn K mainGlobals "bool" = some none)
    (z_ValueError : PySem.W.nsIn K mainGlobals "ValueError" = some none) :
    ∃ fd : FuncData, (∀ (s : Shared) (v : Value), BindsTo s fd ⟨[v], []⟩ [("script", v)]) ∧ ∀ base : Heap, K.In base → base.Ns mainGlobals mg → FnOk l.prog w K mg base CX0 9 fa fd ["script"] (spLaw K) := by
  have e := hfa.symm.trans (PySem.W.mg_of X G a25)
  cases e
  have F1 := fun_mk (st := sSI) l1 p1 k1
  have F2 := fun_mk (st := sWA) l2 p2 k2
  have F3 := fun_mk (st := sGO) l3 p3 k3
  have F4 := fun_mk (st := sWI) l4 p4 k4
  have F5 := fun_mk (st := sPI) l5 p5 k5
  have F6 := fun_mk (st := sNow) l6 p6 k6
  have F7 := fun_mk (st := sHolds) l7 p7 k7
  have F8 := fun_mk (st := sUnder) l8 p8 k8
  have F9 := fun_mk (st := sRoom) l9 p9 k9
  have F10 := fun_mk (st := sFull) l10 p10 k10
  have F11 := fun_mk (st := sLet) l11 p11 k11
  have F12 := fun_mk (st := sGoOn) l12 p12 k12
  have F13 := fun_mk (st := sDraw) l13 p13 k13
  have F14 := fun_mk (st := sPart) l14 p14 k14
  have F15 := fun_mk (st := sWhole) l15 p15 k15
  have F16 := fun_mk (st := sWholes) l16 p16 k16
  have F17 := fun_mk (st := sSpots) l17 p17 k17
  have F18 := fun_mk (st := sVats) l18 p18 k18
  have F19 := fun_mk (st := sPipes) l19 p19 k19
  have F20 := fun_mk (st := sFullW) l20 p20 k20
  have F21 := fun_mk (st := sRef) l21 p21 k21
  have F22 := fun_mk (st := sOnTo) l22 p22 k22
  have F23 := fun_mk (st := sLetOn) l23 p23 k23
  have F24 := fun_mk (st := sEmp) l24 p24 k24
  have F25 := fun_mk (st := sLaw) l25 p25 k25
  have b1 := F1.binds (ps := ["self", "most"]) fun _ _ _ _ _ _ us hl => match us, hl with | [_, _], _ => rfl
  have b2 := F2.binds (ps := ["self", "moment"]) fun _ _ _ _ _ _ us hl => match us, hl with | [_, _], _ => rfl
  have b3 := F3.binds (ps := ["gate"]) fun _ _ _ _ _ _ us hl => match us, hl with | [_], _ => rfl
  have b4 := F4.binds (ps := ["gate", "moment"]) fun _ _ _ _ _ _ us hl => match us, hl with | [_, _], _ => rfl
  have b5 := F5.binds (ps := ["self", "yard"]) fun _ _ _ _ _ _ us hl => match us, hl with | [_, _], _ => rfl
  have b6 := F6.binds (ps := ["self"]) fun _ _ _ _ _ _ us hl => match us, hl with | [_], _ => rfl
  have b7 := F7.binds (ps := ["self"]) fun _ _ _ _ _ _ us hl => match us, hl with | [_], _ => rfl
  have b8 := F8.binds (ps := ["self"]) fun _ _ _ _ _ _ us hl => match us, hl with | [_], _ => rfl
  have b9 := F9.binds (ps := ["self", "pipe"]) fun _ _ _ _ _ _ us hl => match us, hl with | [_, _], _ => rfl
  have b10 := F10.binds (ps := ["self"]) fun _ _ _ _ _ _ us hl => match us, hl with | [_], _ => rfl
  have b11 := F11.binds (ps := ["self", "pipe", "amount"]) fun _ _ _ _ _ _ us hl => match us, hl with | [_, _, _], _ => rfl
  have b12 := F12.binds (ps := ["self"]) fun _ _ _ _ _ _ us hl => match us, hl with | [_], _ => rfl
  have b13 := F13.binds (ps := ["script", "k"]) fun _ _ _ _ _ _ us hl => match us, hl with | [_, _], _ => rfl
  have b14 := F14.binds (ps := ["number", "most"]) fun _ _ _ _ _ _ us hl => match us, hl with | [_, _], _ => rfl
  have b15 := F15.binds (ps := ["found", "due"]) fun _ _ _ _ _ _ us hl => match us, hl with | [_, _], _ => rfl
  have b16 := F16.binds (ps := ["found", "due"]) fun _ _ _ _ _ _ us hl => match us, hl with | [_, _], _ => rfl
  have b17 := F17.binds (ps := ["script", "many"]) fun _ _ _ _ _ _ us hl => match us, hl with | [_, _], _ => rfl
  have b18 := F18.binds (ps := ["script", "many", "spots"]) fun _ _ _ _ _ _ us hl => match us, hl with | [_, _, _], _ => rfl
  have b19 := F19.binds (ps := ["script", "spots", "lengths"]) fun _ _ _ _ _ _ us hl => match us, hl with | [_, _, _], _ => rfl
  have b20 := F20.binds (ps := ["play", "vats", "held"]) fun _ _ _ _ _ _ us hl => match us, hl with | [_, _, _], _ => rfl
  have b21 := F21.binds (ps := ["play", "now", "way"]) fun _ _ _ _ _ _ us hl => match us, hl with | [_, _, _], _ => rfl
  have b22 := F22.binds (ps := ["play", "now", "later"]) fun _ _ _ _ _ _ us hl => match us, hl with | [_, _, _], _ => rfl
  have b23 := F23.binds (ps := ["play", "vats", "held", "at", "start", "amount"]) fun _ _ _ _ _ _ us hl => match us, hl with | [_, _, _, _, _, _], _ => rfl
  have b24 := F24.binds (ps := ["play", "vats", "pipes", "held", "start", "parts", "now", "way"]) fun _ _ _ _ _ _ us hl => match us, hl with | [_, _, _, _, _, _, _, _], _ => rfl
  have cS : Cls K CS := ⟨pgS, hdS, poS, saS⟩
  have cP : Cls K CP := ⟨pgP, hdP, poP, saP⟩
  have T : PTxt K CP := ⟨cP, nV, nP, nM, nH, nU, nC⟩
  have B : BTxt mg := ⟨PySem.W.mg_none_of X G z_len, PySem.W.mg_none_of X G z_list, PySem.W.mg_none_of X G z_enumerate, PySem.W.mg_none_of X G z_sorted, PySem.W.mg_none_of X G z_range, PySem.W.mg_none_of X G z_min, PySem.W.mg_none_of X G z_isinstance, PySem.W.mg_none_of X G z_int, PySem.W.mg_none_of X G z_bool⟩
  have XF : XTxt K mg "TooFull" EF := ⟨xF, PySem.W.mg_of X G gF, kF, bF, tyF⟩
  have ET : ETxt K mg EY EF Ec1 Ec2 Ec3 Ec4 Ec5 Ec6 Ec7 Ec8 :=
    { gY := PySem.W.mg_of X G gY
      ex := PySem.W.exm_ref bY hxY tyY sbY
      ec := ⟨xg, xk, bF, hxF, xa, xn, xt, xm⟩
      g1 := PySem.W.mg_of X G gc1
      g2 := PySem.W.mg_of X G gc2
      g3 := PySem.W.mg_of X G gc3
      g4 := PySem.W.mg_of X G gc4
      g5 := PySem.W.mg_of X G gc5
      g6 := PySem.W.mg_of X G gc6
      g7 := PySem.W.mg_of X G gc7
      g8 := PySem.W.mg_of X G gc8
      gF := PySem.W.mg_of X G gF
      gV := PySem.W.mg_none_of X G z_ValueError
      k1 := kit_own hxc1 tyc1 sbc1 sbF
      k2 := kit_own hxc2 tyc2 sbc2 sbF
      k3 := kit_own hxc3 tyc3 sbc3 sbF
      k4 := kit_own hxc4 tyc4 sbc4 sbF
      k5 := kit_own hxc5 tyc5 sbc5 sbF
      k6 := kit_own hxc6 tyc6 sbc6 sbF
      k7 := kit_own hxc7 tyc7 sbc7 sbF
      k8 := kit_own hxc8 tyc8 sbc8 sbF
      kF := kit_own hxF tyF sbF sbF
      kV := kit_type vF }
  refine ⟨PySem.W.fnOf "law" "law" (defArgs sLaw) (defBody sLaw) (defScope sLaw) .none kV25 dc25 pm25 an25 cd25 ct25, fun s v => .of_eq rfl, fun base _ _ => ?_⟩
  have dS : Kl l.prog w K mg base CX0 1 "Steady" CS ["self", "most"] (spSI CS) := ⟨⟨f1, _, ok_SI F1 cS nMo, ⟨mkS, a1, i1, kcS⟩, PySem.W.mg_of X G aS, b1⟩⟩
  have dWA : Md l.prog w K mg base CX0 1 CS "width_at" ["self", "moment"] (spWA CS) := .mk1 (ok_WA F2 cS nMo) ⟨a2, i2, k2⟩ b2 cS
  have dGO : Df l.prog w K mg base CX0 3 "gate_of" ["gate"] (spGO CS) := .mk1 (ok_GO F3 dS) (PySem.W.mg_of X G a3) k3 b3
  have dWI : Df l.prog w K mg base CX0 4 "width" ["gate", "moment"] spWI := .mk1 (ok_WI F4 dGO dWA) (PySem.W.mg_of X G a4) k4 b4
  have dNow : ∀ Y, Md l.prog w K mg base CX0 1 CP "now" ["self"] (spNow CP Y) := fun Y => .mk1 (ok_now F6 T) ⟨a6, i6, k6⟩ b6 cP
  have dHolds : ∀ Y, Md l.prog w K mg base CX0 1 CP "holds" ["self"] (spHolds CP Y) := fun Y => .mk1 (ok_holds F7 T B) ⟨a7, i7, k7⟩ b7 cP
  have dUnder : ∀ Y, Md l.prog w K mg base CX0 1 CP "under_way" ["self"] (spUnder CP Y) := fun Y => .mk1 (ok_under F8 T B) ⟨a8, i8, k8⟩ b8 cP
  have dRoom : ∀ Y, Md l.prog w K mg base CX0 5 CP "room_in" ["self", "pipe"] (spRoom CP Y) := fun Y => .mk1 (ok_room F9 T B dWI) ⟨a9, i9, k9⟩ b9 cP
  have dFull : ∀ Y, Md l.prog w K mg base CX0 1 CP "full" ["self"] (spFull CP Y) := fun Y => .mk1 (ok_full F10 T B) ⟨a10, i10, k10⟩ b10 cP
  have dLet : ∀ Y, Md l.prog w K mg base CX0 6 CP "let" ["self", "pipe", "amount"] (spLet CP Y) := fun Y => .mk1 (ok_let F11 T (dRoom Y)) ⟨a11, i11, k11⟩ b11 cP
  have dGoOn : ∀ Y, Md l.prog w K mg base (L2.CX l.prog w) 2 CP "go_on" ["self"] (spGoOn CP EF Y) := fun Y => .mk1 (ok_goOn F12 T B XF (dFull Y)) ⟨a12, i12, k12⟩ b12 cP
  have dDraw : Df l.prog w K mg base CX0 1 "_law_draw" ["script", "k"] (spDraw K) := .mk1 (ok_draw F13 B) (PySem.W.mg_of X G a13) k13 b13
  have dPart : Df l.prog w K mg base CX0 1 "_law_part" ["number", "most"] spPart := .mk1 (ok_part F14 B) (PySem.W.mg_of X G a14) k14 b14
  have dWhole : Df l.prog w K mg base CX0 1 "_law_whole" ["found", "due"] spWhole := .mk1 (ok_whole F15 B) (PySem.W.mg_of X G a15) k15 b15
  have dWholes : Df l.prog w K mg base CX0 2 "_law_wholes" ["found", "due"] spWholes := .mk1 (ok_wholes F16 B dWhole) (PySem.W.mg_of X G a16) k16 b16
  have oFullW : ∀ Y, FnOk l.prog w K mg base CX0 3 f20 _ ["play", "vats", "held"] (spFullW CP Y) := fun Y => ok_fullW F20 B dWholes (dFull Y) (dHolds Y)
  have oRef : ∀ Y, FnOk l.prog w K mg base CX0 3 f21 _ ["play", "now", "way"] (spRef CP Y) := fun Y => ok_ref F21 B ET dWhole (dGoOn Y) (dNow Y) (dUnder Y)
  have oOnTo : ∀ Y, FnOk l.prog w K mg base CX0 3 f22 _ ["play", "now", "later"] (spOnTo CP Y) := fun Y => ok_onTo F22 dWhole (dGoOn Y)
  have oLetOn : ∀ Y, FnOk l.prog w K mg base CX0 7 f23 _ ["play", "vats", "held", "at", "start", "amount"] (spLetOn CP Y) := fun Y => ok_letOn F23 dWhole (dLet Y) (.mk1 (oFullW Y) (PySem.W.mg_of X G a20) k20 b20)
  have oEmp : ∀ Y, FnOk l.prog w K mg base CX0 8 f24 _ ["play", "vats", "pipes", "held", "start", "parts", "now", "way"] (spEmp CP Y) := fun Y => ok_emp F24 B (.mk1 (oLetOn Y) (PySem.W.mg_of X G a23) k23 b23) (.mk1 (oRef Y) (PySem.W.mg_of X G a21) k21 b21)
  exact ok_law F25 B
    { draw := dDraw
      part := dPart
      spots := .mk1 (ok_spots F17 B dDraw) (PySem.W.mg_of X G a17) k17 b17
      vats := .mk1 (ok_vats F18 B dDraw dPart) (PySem.W.mg_of X G a18) k18 b18
      pipes := .mk1 (ok_pipes F19 dDraw) (PySem.W.mg_of X G a19) k19 b19
      play := ⟨⟨f5, _, fn_ex fun Y => ok_PI F5 T B, ⟨mkP, a5, i5, kcP⟩, PySem.W.mg_of X G aP, b5⟩⟩
      letOn := .mk1 (fn_ex oLetOn) (PySem.W.mg_of X G a23) k23 b23
      onTo := .mk1 (fn_ex oOnTo) (PySem.W.mg_of X G a22) k22 b22
      full := .mk1 (fn_ex oFullW) (PySem.W.mg_of X G a20) k20 b20
      emp := .mk1 (fn_ex oEmp) (PySem.W.mg_of X G a24) k24 b24
      under := .mk1 (fn_ex fun Y => ok_under F8 T B) ⟨a8, i8, k8⟩ b8 cP }
/-- the law's attachment: 63 numbers at most, nine levels of calls -/
theorem walk {l : PySem.W.OpenLaw} {prg : Program} {lse : List Str} {XQ : (Str → Option Value) → Heap → Prop} {YQ : World → Heap → Prop} {dr : DefRec} {K : Params → PySem.W.Frag} (hn : l.most = some 63) (hd0 : dr.params.defaults = []) (hW : ∀ (w : World) (g : Heap), YQ w g → (K w.params).In g)
    (hall : ∀ (w : World) (mg : Str → Option Value) (fa : Addr) (g : Heap), (K w.params).In g → g.Ns mainGlobals mg → mg dr.name = some (.ref fa) → ∃ fd : FuncData, (∀ (s : Shared) (u : Value), BindsTo s fd ⟨[u], []⟩ [("script", u)]) ∧
      ∀ base : Heap, (K w.params).In base → base.Ns mainGlobals mg → FnOk l.prog w (K w.params) mg base CX0 9 fa fd ["script"] (spLaw (K w.params))) : PySem.W.WalkO prg lse XQ YQ l.row.toRowW dr [] fun f vs => PySem.call f vs :=
  L2.walk_of (n := 63) (k := 9) (x := "script") (CX := fun _ => CX0) (sp := fun w => spLaw (K w.params)) hn (by decide) hd0 ⟨rfl, by decide, by decide⟩ hW hall (fun _ _ a ns hl _ hS => ⟨a, rfl, ⟨ns, hS, hl⟩, fun _ => rfl⟩) fun _ _ _ _ _ z => z
end Vy

open PyProof.Rows PySem PySem.W
set_option maxHeartbeats 0 in
theorem PySem.Challenge.cw_vatyard_k15_too_full_holds : PySem.Challenge.rw_vatyard_k15_too_full.Holds := by
  w_on
  o_law
  k_head
  case hw => w_witness2
  k_fill
  refine Vy.walk (l := PySem.Challenge.rw_vatyard_k15_too_full) rfl rfl (fun w h Y => PySem.W.kIn_of Y) ?F
  case F =>
    intro w mg fa h KX G hmg
    refine' Vy.all_mk KX G hmg ?gF ?aS ?aP ?a1 ?i1 ?l1 ?p1 ?k1 ?a2 ?i2 ?l2 ?p2 ?k2 ?a3 ?l3 ?p3 ?k3 ?a4 ?l4 ?p4 ?k4 ?a5 ?i5 ?l5 ?p5 ?k5 ?a6 ?i6 ?l6 ?p6 ?k6 ?a7 ?i7 ?l7 ?p7 ?k7 ?a8 ?i8 ?l8 ?p8 ?k8 ?a9 ?i9 ?l9 ?p9 ?k9 ?a10 ?i10 ?l10 ?p10 ?k10 ?a11 ?i11 ?l11 ?p11 ?k11 ?a12 ?i12 ?l12 ?p12 ?k12 ?a13 ?l13 ?p13 ?k13 ?a14 ?l14 ?p14 ?k14 ?a15 ?l15 ?p15 ?k15 ?a16 ?l16 ?p16 ?k16 ?a17 ?l17 ?p17 ?k17 ?a18 ?l18 ?p18 ?k18 ?a19 ?l19 ?p19 ?k19 ?a20 ?l20 ?p20 ?k20 ?a21 ?l21 ?p21 ?k21 ?a22 ?l22 ?p22 ?k22 ?a23 ?l23 ?p23 ?k23 ?a24 ?l24 ?p24 ?k24 ?a25 ?l25 ?p25 ?k25 ?pgS ?hdS ?poS ?saS ?mkS ?kcS ?pgP ?hdP ?poP ?saP ?mkP ?kcP ?nMo ?nV ?nP ?nM ?nH ?nU ?nC ?gY ?hxY ?tyY ?sbY ?gc1 ?hxc1 ?tyc1 ?sbc1 ?gc2 ?hxc2 ?tyc2 ?sbc2 ?gc3 ?hxc3 ?tyc3 ?sbc3 ?gc4 ?hxc4 ?tyc4 ?sbc4 ?gc5 ?hxc5 ?tyc5 ?sbc5 ?gc6 ?hxc6 ?tyc6 ?sbc6 ?gc7 ?hxc7 ?tyc7 ?sbc7 ?gc8 ?hxc8 ?tyc8 ?sbc8 ?hxF ?tyF ?sbF ?xF ?kF ?bF ?bY ?vF ?xg ?xk ?xa ?xn ?xt ?xm ?z_len ?z_list ?z_enumerate ?z_sorted ?z_range ?z_min ?z_isinstance ?z_int ?z_bool ?z_ValueError
    (case gF => k_is); (case aS => k_is); (case aP => k_is); (case a1 => k_is); (case i1 => k_is); (case l1 => k_is); (case p1 => k_is); (case k1 => k_is)
    (case a2 => k_is); (case i2 => k_is); (case l2 => k_is); (case p2 => k_is); (case k2 => k_is); (case a3 => k_is); (case l3 => k_is); (case p3 => k_is)
    (case k3 => k_is); (case a4 => k_is); (case l4 => k_is); (case p4 => k_is); (case k4 => k_is); (case a5 => k_is); (case i5 => k_is); (case l5 => k_is)
    (case p5 => k_is); (case k5 => k_is); (case a6 => k_is); (case i6 => k_is); (case l6 => k_is); (case p6 => k_is); (case k6 => k_is); (case a7 => k_is)
    (case i7 => k_is); (case l7 => k_is); (case p7 => k_is); (case k7 => k_is); (case a8 => k_is); (case i8 => k_is); (case l8 => k_is); (case p8 => k_is)
    (case k8 => k_is); (case a9 => k_is); (case i9 => k_is); (case l9 => k_is); (case p9 => k_is); (case k9 => k_is); (case a10 => k_is); (case i10 => k_is)
    (case l10 => k_is); (case p10 => k_is); (case k10 => k_is); (case a11 => k_is); (case i11 => k_is); (case l11 => k_is); (case p11 => k_is); (case k11 => k_is)
    (case a12 => k_is); (case i12 => k_is); (case l12 => k_is); (case p12 => k_is); (case k12 => k_is); (case a13 => k_is); (case l13 => k_is); (case p13 => k_is)
    (case k13 => k_is); (case a14 => k_is); (case l14 => k_is); (case p14 => k_is); (case k14 => k_is); (case a15 => k_is); (case l15 => k_is); (case p15 => k_is)
    (case k15 => k_is); (case a16 => k_is); (case l16 => k_is); (case p16 => k_is); (case k16 => k_is); (case a17 => k_is); (case l17 => k_is); (case p17 => k_is)
    (case k17 => k_is); (case a18 => k_is); (case l18 => k_is); (case p18 => k_is); (case k18 => k_is); (case a19 => k_is); (case l19 => k_is); (case p19 => k_is)
    (case k19 => k_is); (case a20 => k_is); (case l20 => k_is); (case p20 => k_is); (case k20 => k_is); (case a21 => k_is); (case l21 => k_is); (case p21 => k_is)
    (case k21 => k_is); (case a22 => k_is); (case l22 => k_is); (case p22 => k_is); (case k22 => k_is); (case a23 => k_is); (case l23 => k_is); (case p23 => k_is)
    (case k23 => k_is); (case a24 => k_is); (case l24 => k_is); (case p24 => k_is); (case k24 => k_is); (case a25 => k_is); (case l25 => k_is); (case p25 => k_is)
    (case k25 => k_is); (case pgS => k_is); (case hdS => k_is); (case poS => k_is); (case saS => k_is); (case mkS => k_is); (case kcS => k_is); (case pgP => k_is)
    (case hdP => k_is); (case poP => k_is); (case saP => k_is); (case mkP => k_is); (case kcP => k_is); (case nMo => k_is); (case nV => k_is); (case nP => k_is)
    (case nM => k_is); (case nH => k_is); (case nU => k_is); (case nC => k_is); (case gY => k_is); (case hxY => k_is); (case tyY => k_is); (case sbY => k_is)
    (case gc1 => k_is); (case hxc1 => k_is); (case tyc1 => k_is); (case sbc1 => k_is); (case gc2 => k_is); (case hxc2 => k_is); (case tyc2 => k_is); (case sbc2 => k_is)
    (case gc3 => k_is); (case hxc3 => k_is); (case tyc3 => k_is); (case sbc3 => k_is); (case gc4 => k_is); (case hxc4 => k_is); (case tyc4 => k_is); (case sbc4 => k_is)
    (case gc5 => k_is); (case hxc5 => k_is); (case tyc5 => k_is); (case sbc5 => k_is); (case gc6 => k_is); (case hxc6 => k_is); (case tyc6 => k_is); (case sbc6 => k_is)
    (case gc7 => k_is); (case hxc7 => k_is); (case tyc7 => k_is); (case sbc7 => k_is); (case gc8 => k_is); (case hxc8 => k_is); (case tyc8 => k_is); (case sbc8 => k_is)
    (case hxF => k_is); (case tyF => k_is); (case sbF => k_is); (case xF => k_exc); (case kF => k_is); (case bF => k_is); (case bY => k_is); (case vF => k_is)
    (case xg => k_is); (case xk => k_is); (case xa => k_is); (case xn => k_is); (case xt => k_is); (case xm => k_is); (case z_len => k_is); (case z_list => k_is)
    (case z_enumerate => k_is); (case z_sorted => k_is); (case z_range => k_is); (case z_min => k_is); (case z_isinstance => k_is); (case z_int => k_is)
    (case z_bool => k_is); (case z_ValueError => k_is)
