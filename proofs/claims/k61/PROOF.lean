import PyProof.Rows.All
import Wide.All
import OpenK.AllK
import Wide.FinOn
import HandS.ForMost
import HandS.ForExc
import HandS.Steps
import HandS.Style
import HandS.TupMul
import HandS.TupAny
import HandS.Deep
import HandS.SortInts
import HandS.Property
import HandS.Defaults
import HandS.IsInst
import HandS.ExcIs
import HandS.CallSlots
import HandS.Strs
import HandS.SetBool
import HandS.StrMore
import HandS.Codes
import HandS.Replace
import HandS.Head0
import HandS.Head1
import HandS.Head2
import HandS.HeadEnd
import HandS.HeadHook1
import HandS.HeadHook2
import PySem.Challenge.RW_segmentfs_k61_handles_by_a_list
set_option Elab.async false
set_option linter.all false
set_option maxRecDepth 100000
set_option maxHeartbeats 4000000
namespace Sg
/-! Own work: short rules over the hand layer, one name each, as the printing program wants them. -/
open PySem PySem.Spec L2
abbrev Frag := PySem.W.Frag
abbrev St := L2.St
/-! ### what is wanted of an exception -/
abbrev WD (E : XK) : WX := fun cls d _ H => E cls d H
abbrev WF : WX := fun _ _ _ _ => False
def V2 (a : Addr) : Value := .ref a
section rules
variable {X : Cx} {e : Expr} {pos apos p : Pos} {ta tb te tv : TE} {t : TA} {a b o : Expr} {es : List Expr}
theorem x_gint {x : Str} {i : Int} (hg : Gl X x) (h : ∃ t, X.mg x = some (.int i t)) (hd : (x == ("__debug__" : Str)) = false := by decide) : PE X (.Name x pos) (tC (.int i)) := by
  obtain ⟨t, h⟩ := h
  exact pe_glob hg h ⟨t, rfl⟩ hd
theorem x_gstr {x z : Str} (hg : Gl X x) (h : ∃ t, X.mg x = some (.str z t)) (hd : (x == ("__debug__" : Str)) = false := by decide) : PE X (.Name x pos) (tC (.str z)) := by
  obtain ⟨t, h⟩ := h
  exact pe_glob hg h ⟨t, rfl⟩ hd
theorem x_gref {x : Str} {a : Addr} (hg : Gl X x) (h : X.mg x = some (.ref a)) (hd : (x == ("__debug__" : Str)) = false := by decide) : PE X (.Name x pos) (tC (.ref a)) := pe_glob hg h rfl hd
/-! ### fields of instances: the class's facts are spent in the derivation -/
def tFldC (C : Addr) (ta : TE) (f : Str) : TE := fun σ H Q => ta σ H fun x H1 => ∃ a dx fs v, x = .ref a ∧ H1 a = some (.ins C dx fs) ∧ fs.lookup f = some v ∧ Q v H1
theorem x_fld {C : Addr} {f : Str} (c : Cls X.K C) (n : NoAttr X.K C f) (he : PE X e ta) (hb : attributeBase e f X.env (eval e X.env) = eval e X.env := by rfl) : PE X (.Attribute e f pos) (tFldC C ta f) := by
  refine ⟨fun pins s σ H Q I h => attr_of hb (thn (he.run pins s σ H _ I h) ?_)⟩
  rintro u s1 ⟨x, H1, I1, rx, a, dx, fs, v, rfl, ea, l, q⟩
  obtain rfl : u = Value.ref a := rx
  exact getattr_ok I1 ea c n l fun _ _ I2 ru => ⟨v, H1, I2, ru, q⟩
def sFldC (C : Addr) (ta tv : TE) (f : Str) : TS := fun D σ H => tv σ H fun y H1 => ta σ H1 fun x H2 => ∃ a dx fs, x = .ref a ∧ H2 a = some (.ins C dx fs) ∧ fs.length < 1000 ∧ D.nx σ (upd H2 a (.ins C dx (putF f y fs)))
theorem x_sfld {C : Addr} {f : Str} {value : Expr} {pos' : Pos} (c : Cls X.K C) (n : NoAttr X.K C f) (ha : PE X o ta) (hv : PE X value tv) (hs : swapsWith value (some (.Attribute o f pos')) pos.line X.env = pure false := by rfl) :
    PS X (.Assign [.Attribute o f pos'] value pos) (sFldC C ta tv f) := by
  refine ⟨fun pins s σ H D I h => plainObj_wpAny_Assign_Attribute (thn (hv.run pins s σ H _ I h) ?_) hs⟩
  rintro u s1 ⟨y, H1, I1, ry, q⟩
  refine thn (ha.run pins s1 σ H1 _ I1 q) ?_
  rintro ov s2 ⟨x, H2, I2, rx, a, dx, fs, rfl, ea, l, q2⟩
  obtain rfl : ov = Value.ref a := rx
  exact setattr_ok I2 ea c n l ry fun s3 I3 => ⟨σ, _, I3, q2⟩
def sFldAugC (C : Addr) (ta tv : TE) (rd : V → V → Hp → VK → Prop) (f : Str) : TS := fun D σ H => ta σ H fun x H1 => ∃ a dx fs v, x = .ref a ∧ H1 a = some (.ins C dx fs) ∧ fs.lookup f = some v ∧
  tv σ H1 fun y H2 => rd v y H2 fun z H3 => ∃ dx' fs', H3 a = some (.ins C dx' fs') ∧ fs'.length < 1000 ∧ D.nx σ (upd H3 a (.ins C dx' (putF f z fs')))
theorem x_sfldA {C : Addr} {f : Str} {value : Expr} {tpos : Pos} {op : Operator} {rd : V → V → Hp → VK → Prop} (c : Cls X.K C) (n : NoAttr X.K C f) (ha : PE X o ta) (hv : PE X value tv) (hop : InOp X op rd) :
    PS X (.AugAssign (.Attribute o f tpos) op value pos) (sFldAugC C ta tv rd f) := by
  refine ⟨fun pins s σ H D I h => wpAny_AugAssign_AttributeAny (thn (ha.run pins s σ H _ I h) ?_)⟩
  rintro ov s1 ⟨x, H1, I1, rx, a, dx, fs, v, rfl, ea, l, q⟩
  obtain rfl : ov = Value.ref a := rx
  refine getattr_ok I1 ea c n l fun u s2 I2 ru => thn (hv.run pins s2 σ H1 _ I2 q) ?_
  rintro w3 s3 ⟨y, H2, I3, ry, q3⟩
  refine thn (hop pins s3 σ H2 v y u w3 _ I3 ru ry q3) ?_
  rintro w4 s4 ⟨z, H3, I4, rz, dx', fs', ea', l', q4⟩
  exact setattr_ok I4 ea' c n l' rz fun s5 I5 => ⟨σ, _, I5, q4⟩
/-! ### operators under a name -/
def rAddSt : R2 := fun x y H Q => ∃ i j, x = .str i ∧ y = .str j ∧ i.length + j.length ≤ sizeLine ∧ Q (.str (i ++ j)) H
theorem x_addS : OpR X (binaryOp .Add) rAddSt := op_add_str
def rIsRef : R2 := fun x y H Q => ∃ a b oa ob, x = .ref a ∧ y = .ref b ∧ H a = some oa ∧ isObj oa = true ∧ H b = some ob ∧ isObj ob = true ∧ Q (.bl (decide (a = b))) H
def rSlS : V → Option Int → Option Int → Hp → VK → Prop := fun x lo hi H Q => ∃ z, x = .str z ∧ z.length ≤ sizeLine ∧ Q (.str (cutS z lo hi)) H
theorem x_slS : SlR X rSlS := sl_str
/-! ### built-ins under a name -/
def rLenQ (K : Frag) : List V → Hp → VK → Prop := fun xs H Q => ∃ p ys, xs = [.ref p] ∧ (SqL K H p ys ∨ SqT K H p ys) ∧ Q (.int ys.length) H
theorem x_lenQ : CallR X (.builtin "len") (rLenQ X.K) := call_len_seq
def rLenS : List V → Hp → VK → Prop := fun xs H Q => ∃ z, xs = [.str z] ∧ z.length ≤ sizeLine ∧ Q (.int z.length) H
theorem x_lenS : CallR X (.builtin "len") rLenS := call_len_str
def rLenD : List V → Hp → VK → Prop := fun xs H Q => ∃ a kvs, xs = [V.ref a] ∧ H a = some (.dK kvs) ∧ Q (.int kvs.length) H
theorem x_lenD : CallR X (.builtin "len") rLenD := call_lenD
def rInt : List V → Hp → VK → Prop := fun xs H Q => (∃ i, xs = [.int i] ∧ Q (.int i) H) ∨ ∃ k, xs = [.bl k] ∧ Q (.int (if k then 1 else 0)) H
theorem x_int : CallR X (.type "int") rInt := call_int1
def rOrd : List V → Hp → VK → Prop := fun xs H Q => ∃ x, xs = [.str x] ∧ x.length = 1 ∧ Q (.int (x.cps.getD 0 0 : Nat)) H
theorem x_ord : CallR X (.builtin "ord") rOrd := call_ord
def rMin2 : List V → Hp → VK → Prop := fun xs H Q => ∃ i j, xs = [.int i, .int j] ∧ Q (.int (if j < i then j else i)) H
theorem x_min2 (hc : X.calm = true) : CallR X (.builtin "min") rMin2 := call_min2 hc
def rMax2 : List V → Hp → VK → Prop := fun xs H Q => ∃ i j, xs = [.int i, .int j] ∧ Q (.int (if j > i then j else i)) H
theorem x_max2 (hc : X.calm = true) : CallR X (.builtin "max") rMax2 := call_max2 hc
def rListOf (K : Frag) : List V → Hp → VK → Prop := fun xs H Q => ∃ p ys, xs = [.ref p] ∧ (SqL K H p ys ∨ SqT K H p ys) ∧ ∀ l, H l = none → Q (.ref l) (upd H l (.lst ys))
theorem x_listOf : CallR X (.type "list") (rListOf X.K) := call_list_of
def rTupOf (K : Frag) : List V → Hp → VK → Prop := fun xs H Q => ∃ p ys, xs = [.ref p] ∧ ((SqL K H p ys ∧ ∀ l, H l = none → Q (.ref l) (upd H l (.tup ys))) ∨ (SqT K H p ys ∧ Q (.ref p) H))
theorem x_tupOf : CallR X (.type "tuple") (rTupOf X.K) := call_tuple_of
theorem x_index {k : Nat} (hr : Room k X.A) : MtR X "list.index" (rIndexD X.K) := mt_indexD (by have := hr.un; omega)
theorem units1 {k : Nat} {A : Around} (r : Room k A) : A.units + 65 < cLine := by have := r.un; omega
def rSplit : V → List V → Hp → VK → Prop := fun x xs H Q => ∃ a b, x = .str a ∧ xs = [.str b] ∧ (b.length == 0) = false ∧ a.length + 2 ≤ sizeLine ∧ ∀ p, H p = none → Q (.ref p) (upd H p (.lst ((Txt.split a b).map V.str)))
/-! ### own defs, by what they promise: G of the callee -/
/-- the def x of the module: dvs fill up its parameters -/
structure Gf (P : Program) (w : World) (K : Frag) (mg : Str → Option Value) (base : Heap) (k : Nat) (x : Str) (ps : List Str) (dvs : List V) (sp : Sp) : Prop where
  ok : ∃ fd ds, FnOk P w K mg base (L2.CX P w) k (He.ga K x) fd ps sp ∧ Binds K fd ps ds ∧ Vals dvs ds
  hm : mg x = some (.ref (He.ga K x))
  hk : PySem.W.keepIn K (.ref (He.ga K x)) = true
/-- a def at f -/
structure Gm (P : Program) (w : World) (K : Frag) (mg : Str → Option Value) (base : Heap) (k : Nat) (f : Addr) (ps : List Str) (dvs : List V) (sp : Sp) : Prop where
  ok : ∃ fd ds, FnOk P w K mg base (L2.CX P w) k f fd ps sp ∧ Binds K fd ps ds ∧ Vals dvs ds
def tCallG (sp : Sp) (dvs : List V) (W : WX) (t : TA) : TE := fun σ H Q => t σ H fun vs H1 => sp (vs ++ dvs) H1 Q fun cls d H2 => W cls d σ H2
variable {k : Nat} {x : Str} {ps : List Str} {dvs : List V} {sp : Sp} {W : WX} {C m : Str}
theorem x_call (G : Gf X.prog X.w X.K X.mg X.base k x ps dvs sp) (hr : Room k X.A) (hg : Gl X x) (tk : Takes X W) (ha : PA X (e :: es) t) (hdb : (x == ("__debug__" : Str)) = false := by decide)
    (he : starEach (e :: es) X.env = (false, eval e X.env) :: starEach es X.env := by rfl) (hpl : (backTo pos (starEach es X.env)).any (·.1) = false := by rfl) : PE X (.Call (.Name x p) (e :: es) [] pos) (tCallG sp dvs W t) := by
  obtain ⟨fd, ds, F, hb, hd⟩ := G.ok
  exact pe_callSD F hr hg G.hm G.hk hb hd (fun σ => passAt tk σ) ha hdb he hpl
theorem x_call0 (G : Gf X.prog X.w X.K X.mg X.base k x ps dvs sp) (hr : Room k X.A) (hg : Gl X x) (tk : Takes X W) (hdb : (x == ("__debug__" : Str)) = false := by decide) : PE X (.Call (.Name x p) [] [] pos) (tCallG sp dvs W tNil) := by
  obtain ⟨fd, ds, F, hb, hd⟩ := G.ok
  refine ⟨fun pins s σ H Q I h => wpAny_Call_Name_kw (ld_glob I hg G.hm ?_ hdb)⟩
  exact PySem.W.callWith_K0 I.kIn G.hk (run_fnSD (us := []) (E := WE W) F hr hb hd (passAt tk σ) I .nil h)
def tMethG (C : Addr) (m : Str) (sp : Sp) (dvs : List V) (W : WX) (ta : TE) (t : TA) : TE := fun σ H Q => ta σ H fun x H1 => ∃ a dx fs, x = .ref a ∧ H1 a = some (.ins C dx fs) ∧ fs.lookup m = none ∧
  t σ H1 fun vs H2 => sp (x :: (vs ++ dvs)) H2 Q fun cls d H3 => W cls d σ H3
theorem x_meth {pl : Sem Bool} (he : PE X o ta) (c : Cls X.K (He.ga X.K C)) (hm : Meth X.K (He.ga X.K C) m (He.ma X.K (He.ga X.K C) m)) (G : Gm X.prog X.w X.K X.mg X.base k (He.ma X.K (He.ga X.K C) m) ps dvs sp) (hr : Room k X.A) (tk : Takes X W) (ha : PA X (e :: es) t)
    (hst : starEach (e :: es) X.env = (false, eval e X.env) :: starEach es X.env := by rfl) (hpl : (backTo pos (starEach es X.env)).any (·.1) = false := by rfl)
    (ht : eval (.Call (.Attribute o m apos) (e :: es) [] pos) X.env = (do
      let ov ← eval o X.env
      standAt apos.atName
      let (f, first) ← holding [ov] (getMethod ov m pl)
      callWith pos f first (backTo pos (starEach (e :: es) X.env)) (backToKw pos (keywordEach [] X.env))) := by rfl) :
    PE X (.Call (.Attribute o m apos) (e :: es) [] pos) (tMethG (He.ga X.K C) m sp dvs W ta t) := by
  obtain ⟨fd, ds, F, hb, hd⟩ := G.ok
  refine ⟨fun pins s σ H Q I h => PySem.W.methodCall_KW (pl := pl) (thn (he.run pins s σ H _ I h) ?_) ht⟩
  rintro u s1 ⟨x, H1, I1, rx, a, dx, fs, rfl, ea, l, q⟩
  obtain rfl : u = Value.ref a := rx
  refine getmeth_ok I1 ea c hm l (PySem.W.callWith_K (first := [.ref a]) (h₀ := X.base) I.ok.mod.kin hm.kp (thn (ha.run pos pins s1 σ H1 _ I1 q) ?_) hst hpl)
  rintro us s2 ⟨vs, H2, I2, r, q2⟩
  exact ⟨I2.kIn, run_fnSD (us := .ref a :: us) (vs := .ref a :: vs) (E := WE W) F hr hb hd (passAt tk σ) I2 (.cons rfl r) q2⟩
theorem x_meth0 {pl : Sem Bool} (he : PE X o ta) (c : Cls X.K (He.ga X.K C)) (hm : Meth X.K (He.ga X.K C) m (He.ma X.K (He.ga X.K C) m)) (G : Gm X.prog X.w X.K X.mg X.base k (He.ma X.K (He.ga X.K C) m) ps dvs sp) (hr : Room k X.A) (tk : Takes X W)
    (ht : eval (.Call (.Attribute o m apos) [] [] pos) X.env = (do
      let ov ← eval o X.env
      standAt apos.atName
      let (f, first) ← holding [ov] (getMethod ov m pl)
      callWith pos f first (backTo pos (starEach [] X.env)) (backToKw pos (keywordEach [] X.env))) := by rfl) :
    PE X (.Call (.Attribute o m apos) [] [] pos) (tMethG (He.ga X.K C) m sp dvs W ta tNil) := by
  obtain ⟨fd, ds, F, hb, hd⟩ := G.ok
  refine ⟨fun pins s σ H Q I h => PySem.W.methodCall_KW (pl := pl) (thn (he.run pins s σ H _ I h) ?_) ht⟩
  rintro u s1 ⟨x, H1, I1, rx, a, dx, fs, rfl, ea, l, q⟩
  obtain rfl : u = Value.ref a := rx
  refine getmeth_ok I1 ea c hm l ?_
  exact PySem.W.callWith_K0 (first := [.ref a]) I1.kIn hm.kp (run_fnSD (us := [.ref a]) (vs := [.ref a]) (E := WE W) F hr hb hd (passAt tk σ) I1 (.cons rfl .nil) q)
/-- a new instance: what an exception in __init__ asks is asked at the heap without the instance being known to the caller -/
def tMakeG (C : Addr) (sp : Sp) (dvs : List V) (W : WX) (t : TA) : TE := fun σ H Q => t σ H fun vs H1 => ∀ x dx, H1 x = none → H1 dx = none → dx ≠ x →
  sp (.ref x :: (vs ++ dvs)) (upd (upd H1 dx (.own x)) x (.ins C dx [])) (fun v H2 => v = .non ∧ Q (.ref x) H2) fun cls d H2 => W cls d σ H2
theorem run_makeG {pins : List (Addr × Obj)} {σ : St} {H : Hp} {s : Shared} {Q : VK} {us : List Value} {vs : List V} (M : Mk X.K (He.ga X.K C) (He.ma X.K (He.ga X.K C) "__init__")) (G : Gm X.prog X.w X.K X.mg X.base k (He.ma X.K (He.ga X.K C) "__init__") ps dvs sp)
    (hr : Room (k + 1) X.A) (tk : Takes X W) (I : Inv X pins σ H s) (r : Vals vs us)
    (h : ∀ x dx, H x = none → H dx = none → dx ≠ x → sp (.ref x :: (vs ++ dvs)) (upd (upd H dx (.own x)) x (.ins (He.ga X.K C) dx [])) (fun v H2 => v = .non ∧ Q (.ref x) H2) (WE W σ)) :
    wpAny (model X.prog X.w) X.A (call (.ref (He.ga X.K C)) us) (EP X pins σ Q) X.xe s := by
  obtain ⟨fd, ds, F, hb, hd⟩ := G.ok
  have hq := h (s.heap.objs.size + 1) s.heap.objs.size (I.hok.fresh (Nat.le_succ _)) (I.hok.fresh (Nat.le_refl _)) (Nat.ne_of_lt (Nat.lt_succ_self _))
  have I2 := Inv.made (C := He.ga X.K C) I
  have r2 : Vals (V.ref (s.heap.objs.size + 1) :: (vs ++ dvs)) (Value.ref (s.heap.objs.size + 1) :: (us ++ ds)) := .cons rfl (r.append hd)
  have hl : (Value.ref (s.heap.objs.size + 1) :: us ++ ds).length = ps.length := (r2.length.symm).trans (F.len _ _ _ _ hq)
  have run := F.run _ X.stack _ _ ⟨Value.ref (s.heap.objs.size + 1) :: us, []⟩ (Value.ref (s.heap.objs.size + 1) :: (us ++ ds)) _ _ (WE W σ) (hr.make (He.ga X.K C) us []) (I2.env0.make (He.ga X.K C) us []) (hb _ (Value.ref (s.heap.objs.size + 1) :: us) I2.kIn hl) r2 hq
  refine wpAny_call (make_map (f := He.ma X.K (He.ga X.K C) "__init__") I.kIn M.makes M.init (beq_iff_eq.mp M.fn) (codeAny_mono run ?_))
  rintro (e | fl) s' hq'
  · exact passAt tk σ pins _ _ e s' I2 hq'
  · cases fl with
    | ret u =>
      obtain ⟨v, H', I3, rv, ev, q3⟩ := I2.after hq'
      subst ev
      exact ⟨rv, ⟨V.ref (s.heap.objs.size + 1), H', I3, rfl, q3⟩⟩
    | next => exact False.elim hq'
    | brk => exact False.elim hq'
    | cont => exact False.elim hq'
theorem x_make (M : Mk X.K (He.ga X.K C) (He.ma X.K (He.ga X.K C) "__init__")) (G : Gm X.prog X.w X.K X.mg X.base k (He.ma X.K (He.ga X.K C) "__init__") ps dvs sp) (hr : Room (k + 1) X.A) (hg : Gl X C) (hm : X.mg C = some (.ref (He.ga X.K C))) (tk : Takes X W)
    (ha : PA X (e :: es) t) (hdb : (C == ("__debug__" : Str)) = false := by decide) (he : starEach (e :: es) X.env = (false, eval e X.env) :: starEach es X.env := by rfl) (hpl : (backTo pos (starEach es X.env)).any (·.1) = false := by rfl) :
    PE X (.Call (.Name C p) (e :: es) [] pos) (tMakeG (He.ga X.K C) sp dvs W t) := by
  refine ⟨fun pins s σ H Q I h => wpAny_Call_Name_kw (ld_glob I hg hm ?_ hdb)⟩
  refine PySem.W.callWith_K (h₀ := X.base) I.ok.mod.kin M.kp (thn (ha.run pos pins s σ H _ I h) ?_) he hpl
  rintro us s1 ⟨vs, H1, I1, r, q⟩
  exact ⟨I1.kIn, run_makeG M G hr tk I1 r q⟩
theorem x_make0 (M : Mk X.K (He.ga X.K C) (He.ma X.K (He.ga X.K C) "__init__")) (G : Gm X.prog X.w X.K X.mg X.base k (He.ma X.K (He.ga X.K C) "__init__") ps dvs sp) (hr : Room (k + 1) X.A) (hg : Gl X C) (hm : X.mg C = some (.ref (He.ga X.K C))) (tk : Takes X W)
    (hdb : (C == ("__debug__" : Str)) = false := by decide) : PE X (.Call (.Name C p) [] [] pos) (tMakeG (He.ga X.K C) sp dvs W tNil) := by
  refine ⟨fun pins s σ H Q I h => wpAny_Call_Name_kw (ld_glob I hg hm ?_ hdb)⟩
  exact PySem.W.callWith_K0 I.kIn M.kp (run_makeG (us := []) M G hr tk I .nil h)
/-! ### raise, try -/
def tRaiseC (W : WX) (C : Addr) : TS := fun _ σ H => W (.ref C) none σ H
theorem x_raise {x msg : Str} {j : Nat} {p p2 pos2 : Pos} {C : Addr} (hc : X.calm = true) (tk : Takes X W) (f : PySem.W.excIn X.K C He.veBase "ValueError.__new__" = true ∧ PySem.W.keepIn X.K (.ref C) = true ∧ PySem.W.subIn X.K (.ref C) (.type "BaseException") = some true ∧
    PySem.W.typeIn X.K (.ref C) = some (.type "type")) (gC : X.mg x = some (.ref C)) (hg : Gl X x) (hdb : (x == ("__debug__" : Str)) = false := by decide) : PS X (.Raise (some (.Call (.Name x p) [.Constant (.str msg) j p2] [] pos)) none pos2) (tRaiseC W C) :=
  ps_raise hc tk (pmk_own PySem.F.excBase_ValueError f.1 gC f.2.1 (raises_own f.2.2.1 f.2.2.2) hg hdb)
def tTryAs (K : Frag) (c : Value) (i : Nat) (ts : Addr → Value → Option Addr → TS) (Wout : WX) (tb : WX → TS) : TS := fun D σ H => tb (wAs K c i ts Wout D) D σ H
/-- isinstance(e, c), e what the suite holds -/
def rIsX (K : Frag) (a : Addr) (cls : Value) (d : Option Addr) : List V → Hp → VK → Prop := fun xs H Q => ∃ D, cls = .ref D ∧ d = none ∧ ExcC K D ∧ rIsE K D a xs H Q
theorem x_isE {a : Addr} {cls : Value} {d : Option Addr} {oe : Obj} {pn : List (Addr × Obj)} (hz : Zc cls d oe) (hf : ∃ vs, oe.data = .fields vs) : CallR (X.suite a ((a, oe) :: pn)) (.builtin "isinstance") (rIsX X.K a cls d) := by
  rintro pins s σ H xs us Q I r ⟨D, rfl, rfl, C, q⟩
  exact call_isE C hz hf pins s σ H xs us Q I r q
/-! ### properties -/
theorem x_prop {f : Str} {q g : Addr} (he : PE X e ta) (c : Cls X.K (He.ga X.K C)) (hp : PropOf X.K (He.ga X.K C) f q g) (G : Gm X.prog X.w X.K X.mg X.base k g ps [] sp) (hr : Room (k + 1) X.A)
    (hab : attributeBase e f X.env (eval e X.env) = eval e X.env := by rfl) : PE X (.Attribute e f pos) (tProp (He.ga X.K C) sp [] E0 ta) := by
  obtain ⟨fd, ds, F, hb, hd⟩ := G.ok
  exact pe_prop he c hp F hr hb hd (fun _ _ _ _ _ _ _ h => by
    obtain ⟨_, _, _, _, _, _, _, _, _, _, _, _, z⟩ := h
    exact z.elim) hab
/-! ### a word between two statements -/
def tCutG (t u : TS) : TS := fun D σ H => ∃ Mid : St → Hp → Prop, t { D with nx := Mid } σ H ∧ ∀ σ' H', Mid σ' H' → u D σ' H'
theorem x_cut {st : Stmt} {rest : List Stmt} {t u : TS} (h1 : PS X st t) (h2 : PSs X rest u) : PSs X (st :: rest) (tCutG t u) := by
  refine ⟨fun pins s σ H D I ⟨Mid, hm, hu⟩ => wpAny_execs_cons (thn (h1.run pins s σ H { D with nx := Mid } I hm) ?_)⟩
  rintro (_ | v | _ | _) s1 q
  · obtain ⟨σ', H', I', q⟩ := q
    exact h2.run pins s1 σ' H' D I' (hu σ' H' q)
  all_goals exact q
end rules
/-! Own work: sorted({e for x in xs if t}), e whole numbers, fewer than 64 of them: one rule; the set itself stands in the heap as a thing of which the reading knows nothing. -/
open PySem PySem.Spec L2
/-- how many different ones -/
def many : List Int → Nat
  | [] => 0
  | c :: l => if c ∈ l then many l else many l + 1
/-- the set of the members of l, at D -/
def mem_ (w : World) (D : Addr) (l : List Int) : HO := SetO w D (fun j => decide (j ∈ l)) (many l)
theorem mem_nil (w : World) (D : Addr) : mem_ w D [] = SetO w D (fun _ => false) 0 := by
  unfold mem_
  have e : (fun j : Int => decide (j ∈ ([] : List Int))) = fun _ => false := funext fun j => by simp
  rw [e]
  rfl
theorem mem_cons_ (w : World) (D : Addr) (c : Int) (l : List Int) : SetO w D (fun j => decide (j ∈ l) || decide (j = c)) (if decide (c ∈ l) = true then many l else many l + 1) = mem_ w D (c :: l) := by
  unfold mem_
  have e : (fun j : Int => decide (j ∈ l) || decide (j = c)) = fun j => decide (j ∈ c :: l) := funext fun j => by
    by_cases h1 : j ∈ l <;> by_cases h2 : j = c <;> simp [h1, h2]
  rw [e]
  have n : many (c :: l) = if c ∈ l then many l else many l + 1 := rfl
  rw [n]
  by_cases h : c ∈ l <;> simp [h]
def tSoSc (wi : TI) (g : TG) (tt : TT) (te : TE) (vs : List Nat) : TE := fun σ H Q => wi σ H fun J H1 => ∀ (D : Addr) (so : List Int → HO), H1 D = none → ∃ W : Nat → Nat → List Int → Hp → Prop, (∃ m, W 0 m [] (upd H1 D (so []))) ∧ ∀ i m l H, W i m l H →
  (J.stop i H ∧ H D = some (so l) ∧ many l < 64 ∧ ∀ (out : List Int) (p : Addr), out.Pairwise (· < ·) → (∀ k : Int, k ∈ out ↔ k ∈ l) → H p = none → Q (.ref p) (upd H p (.lst (out.map V.int)))) ∨
  (J.go i H ∧ ∃ Nx : List Int → Hp → Prop, (∀ l' H', Nx l' H' → ∃ m', m' < m ∧ W (i + 1) m' l' H') ∧ ∀ x H', J.yld i H x H' → g x (wipe σ vs) H' fun σ2 H2 => wipe σ2 vs = wipe σ vs ∧ tt σ2 H2 fun b H3 =>
    if b = true then te σ2 H3 fun y H4 => ∃ c : Int, y = .int c ∧ H4 D = some (so l) ∧ many l < 1000 ∧ Nx (c :: l) (upd H4 D (so (c :: l))) else Nx l H3)
section
variable {X : Cx}
/-- the block's own context, the set made, the loop entered -/
structure Blk (X : Cx) (s3 : Shared) (H3 : Hp) (sc : Scope) (ce : Env) (fp : List Addr) (s : Shared) (σ : St) (own : List (Str × Nat)) (tn : Nat → Heap → Prop) : Prop where
  inv : Inv (X.blk s3 H3 sc ce fp) [] (wipe σ (own.map (·.2))) H3 s
  at_ : tn 0 s.heap
  free : ∀ b ∈ fp, H3 b = none
theorem stat_of {s3 : Shared} {H3 : Hp} {sc : Scope} {ce : Env} {fp : List Addr} {σ' : St} {H' : Hp} {s' : Shared} (I : Inv (X.blk s3 H3 sc ce fp) [] σ' H' s') (hn : ∀ b ∈ fp, H' b = none) : ∀ b ∈ fp, FpOk (X.blk s3 H3 sc ce fp) [] H' b := fun b hb =>
  ⟨hn b hb, (I.ok.exf b hb).1, I.ok.exfs b hb, .inl hb, fun x c e => (I.ok.exf b hb).2 x c e, fun p hp => absurd (show p ∈ ([] : List (Addr × Obj)) ++ [] from hp) (by simp)⟩
theorem sosc_core {pins : List (Addr × Obj)} {s : Shared} {σ : St} {H : Hp} {Q : VK} {elt tg iter : Expr} {ifs : List Expr} {scope : Scope} {own : List (Str × Nat)} {pos pos' : Pos} {wi : TI} {g : TG} {tt : TT} {te : TE} {Qf : Value → Shared → Prop}
    (hc : X.calm = true) (hN : X.N.Nodup) (I : Inv X pins σ H s) (hi : PI X tg iter wi) (ok : BlkOk X.N X.env.scope scope own)
    (hg : ∀ (s : Shared) (H : Hp) (C : Addr) (cl : List (Str × Addr)) (fp : List Addr), PG (X.blk s H scope (compEnvC scope cl C X.env) fp) tg g) (ht : ∀ (s : Shared) (H : Hp) (C : Addr) (cl : List (Str × Addr)) (fp : List Addr), PTs (X.blk s H scope (compEnvC scope cl C X.env) fp) ifs tt)
    (he : ∀ (s : Shared) (H : Hp) (C : Addr) (cl : List (Str × Addr)) (fp : List Addr), PE (X.blk s H scope (compEnvC scope cl C X.env) fp) elt te) (hs : ∀ x, foldedSetIterable iter X.env x = pure x)
    (h : tSoSc wi g tt te (own.map (·.2)) σ H Q)
    (hQ : ∀ (D : Addr) (l : List Int) (s' : Shared) (H' : Hp), Inv X pins σ H' s' → H' D = some (mem_ X.w D l) → many l < 64 →
      (∀ (out : List Int) (p : Addr), out.Pairwise (· < ·) → (∀ k : Int, k ∈ out ↔ k ∈ l) → H' p = none → Q (.ref p) (upd H' p (.lst (out.map V.int)))) → Qf (.ref D) s') :
    wpAny (model X.prog X.w) X.A (comprehension (.SetComp elt [⟨tg, iter, ifs, 0⟩] scope pos) scope X.env pos' (newSet (.type "set")) false (eval iter X.env) none) Qf X.xe s := by
  have cap : ∀ y ∈ scope.names, y.2 = .free → ∃ c, X.env.cells.lookup y.1 = some c := fun y hy e => (ok.free y hy e).elim (fun k => I.ok.has _ (.inl k)) fun k => I.ok.has _ (.inr k)
  refine wpAny_comprehension_free (use := none) rfl hs (closure_ok cap) ok.kind (fun y hy e => by rw [ok.uniq y hy, e]) (thn (hi.run pins s σ H _ I h) fun xv s1 hx => thn hx ?_)
  rintro itv s2 ⟨it, fp, tn, J, H2, rfl, I2, T, st2, f2, q⟩
  refine PpSet.newSet_ok (newEnv_comp ?_)
  have new : H2 s2.heap.objs.size = none := I2.hok.fresh (Nat.le_refl _)
  obtain ⟨W, ⟨m0, w0⟩, turn⟩ := q s2.heap.objs.size (mem_ X.w s2.heap.objs.size) new
  have lt2 : ∀ b ∈ fp, b < s2.heap.objs.size := fun b hb => by
    obtain ⟨o, e, _⟩ := T.obj _ _ st2 b hb
    exact Heap.lt_size e
  generalize eo : ({ cls := .type "set", dict := none, data := .set #[] 0 (.fresh 0 0 (!X.w.params.followText "set-order")) } : Obj) = ob at ⊢
  have R0 : ObjOk X.prog X.w (upd H2 s2.heap.objs.size (mem_ X.w s2.heap.objs.size [])) (s2.heap.push ob) s2.heap.objs.size (mem_ X.w s2.heap.objs.size []) := by
    rw [mem_nil, ← eo]
    exact setO_new (setR_fresh X.w)
  have I3 : Inv X pins σ (upd H2 s2.heap.objs.size (mem_ X.w s2.heap.objs.size [])) { s2 with heap := s2.heap.push ob } := I2.laid (t' := s2.toks) (fun b o e => Heap.get?_push_of_some _ e) (Nat.le_refl _) R0
  generalize eH : upd H2 s2.heap.objs.size (mem_ X.w s2.heap.objs.size []) = H3 at I3 w0
  generalize es : ({ s2 with heap := s2.heap.push ob } : Shared) = s3 at I3 ⊢
  have sz3 : s3.heap.objs.size = s2.heap.objs.size + 1 := by rw [← es]; exact Heap.size_push ..
  have ps3 : ∀ b o, s2.heap.get? b = some o → s3.heap.get? b = some o := fun b o e => by rw [← es]; exact Heap.get?_push_of_some _ e
  have f3 : ∀ b ∈ fp, FpOk X pins H3 b ∧ b < s3.heap.objs.size := fun b hb => by
    refine ⟨⟨?_, (f2 b hb).2⟩, by rw [sz3]; exact Nat.lt_succ_of_lt (lt2 b hb)⟩
    rw [← eH, upd_ne (Nat.ne_of_lt (lt2 b hb))]
    exact (f2 b hb).1
  have I4 := block_start I3 ok hN f3
  have st4 : tn 0 (pushCells (s3.heap.push { cls := .type "dict", data := .dict #[] }) scope.names) :=
    T.keep _ _ _ st2 fun b _ o e => pushCells_keeps _ _ _ _ (Heap.get?_push_of_some _ (ps3 b o e))
  have pg := hg s3 H3 s3.heap.objs.size (cellsFrom (s3.heap.objs.size + 1) scope.names (cloFrom X.env.cells scope.names [])) fp
  have pt := ht s3 H3 s3.heap.objs.size (cellsFrom (s3.heap.objs.size + 1) scope.names (cloFrom X.env.cells scope.names [])) fp
  have pe := he s3 H3 s3.heap.objs.size (cellsFrom (s3.heap.objs.size + 1) scope.names (cloFrom X.env.cells scope.names [])) fp
  have goal : codeAny (model X.prog X.w) X.A (.compStart (.SetComp elt [⟨tg, iter, ifs, 0⟩] scope pos) 0 (.ref it) (.ref s2.heap.objs.size) (compEnvC scope (cellsFrom (s3.heap.objs.size + 1) scope.names (cloFrom X.env.cells scope.names [])) s3.heap.objs.size X.env))
      (compPost (model X.prog X.w) X.A X.xe none Qf (.ref s2.heap.objs.size) s3.heap.objs.size) { s3 with heap := pushCells (s3.heap.push { cls := .type "dict", data := .dict #[] }) scope.names } := by
    generalize ece : compEnvC scope (cellsFrom (s3.heap.objs.size + 1) scope.names (cloFrom X.env.cells scope.names [])) s3.heap.objs.size X.env = ce at I4 pg pt pe ⊢
    have cL : ce.locals = s3.heap.objs.size := by rw [← ece]; rfl
    generalize eD : s2.heap.objs.size = D at *
    generalize e4 : ({ s3 with heap := pushCells (s3.heap.push { cls := .type "dict", data := .dict #[] }) scope.names } : Shared) = s4 at I4 ⊢
    have st4' : tn 0 s4.heap := by rw [← e4]; exact st4
    have loop : codeAny (model X.prog X.w) X.A (.compLoop (.SetComp elt [⟨tg, iter, ifs, 0⟩] scope pos) 0 (.ref it) (.ref D) ce) (compPost (model X.prog X.w) X.A X.xe none Qf (.ref D) s3.heap.objs.size) s4 := by
      refine PpSet.compLoopS_any (fun n s' => ∃ i l H', Inv (X.blk s3 H3 scope ce fp) [] (wipe σ (own.map (·.2))) H' s' ∧ tn i s'.heap ∧ (∀ b ∈ fp, H' b = none) ∧ W i n l H') ?_ m0 ⟨0, [], H3, I4, st4', fun b hb => (f3 b hb).1.1, w0⟩
      rintro n s5 ⟨i, l, H5, I5, st5, n5, w5⟩
      rcases turn i n l H5 w5 with ⟨stop, hD5, h64, qq⟩ | ⟨go, Nx, hNx, step⟩
      · refine thnF (T.done (X.blk s3 H3 scope ce fp) rfl rfl rfl hc i [] s5 _ H5 (fun _ _ => False) I5 (stat_of I5 n5) st5 stop) ?_
        rintro r s6 ⟨rfl, I6⟩
        have back : Inv X pins σ H5 s6 := I3.call' (ch := fp) I6.os I6.base I6.hok I6.bare fun b hb => ⟨(f3 b hb).1.2.2.2.1, (f3 b hb).1.2.1, (f3 b hb).1.2.2.2.2.1, (f3 b hb).1.2.2.2.2.2⟩
        have freeC : H5 s3.heap.objs.size = none := by
          rw [← cL]
          exact I6.free
        obtain ⟨m, hn, _⟩ := I6.loc
        obtain ⟨g0, g1, g2, g3, g4, g5⟩ := I3.fpOk (Nat.le_refl _) freeC
        refine ⟨m, by rw [← cL]; exact hn, fun h'' sb => ?_⟩
        exact hQ D l _ H5 (back.turned (t' := s6.toks) (fun b o hb e => (sb.2 b hb).trans e) g0 g1 g3 g4 g5) hD5 h64 qq
      · refine thnF (T.item (X.blk s3 H3 scope ce fp) rfl rfl rfl hc i [] s5 _ H5 (fun _ _ => False) I5 (stat_of I5 n5) st5 go) ?_
        rintro r s6 ⟨u, rfl, h6⟩
        refine thnF h6 ?_
        rintro _ s7 ⟨x, H7, I7, r7, y7, st7, n7⟩
        refine thnF (pg.run _ s7 _ H7 x u _ (I7.pinned (stat_of I7 n7) (T.obj _ _ st7)) r7 (step x H7 y7)) ?_
        rintro _ s8 ⟨σ8, H8, I8, hw8, q8⟩
        refine thnF (pt.run _ s8 σ8 H8 _ I8 q8) ?_
        rintro b s9 ⟨H9, I9, q9⟩
        have fin : ∀ {s' : Shared} {H' : Hp} {l' : List Int}, Inv (X.blk s3 H3 scope ce fp) ([] ++ pinsAt fp s7.heap) σ8 H' s' → Nx l' H' → ∃ m, m < n ∧ ∃ i l H', Inv (X.blk s3 H3 scope ce fp) [] (wipe σ (own.map (·.2))) H' s' ∧ tn i s'.heap ∧ (∀ b ∈ fp, H' b = none) ∧ W i m l H' := by
          intro s' H' l' I' nx
          obtain ⟨m', hm, w'⟩ := hNx l' H' nx
          have pin' : ∀ b ∈ fp, ∀ o, s7.heap.get? b = some o → s'.heap.get? b = some o ∧ H' b = none := fun b hb o e =>
            ⟨(I'.pin (b, o) (List.mem_append_right _ (List.mem_append_right _ (mem_pinsAt hb e)))).1, (I'.pin (b, o) (List.mem_append_right _ (List.mem_append_right _ (mem_pinsAt hb e)))).2.1⟩
          refine ⟨m', hm, i + 1, l', H', (I'.unpinned (pins := [])).weak (by rw [← hw8, wipe_length]) (fun j v e => ?_), T.keep _ _ _ st7 fun b hb o e => (pin' b hb o e).1, fun b hb => ?_, w'⟩
          · rw [← hw8] at e
            exact (wipe_some e).1
          · obtain ⟨o, e, _⟩ := T.obj _ _ st7 b hb
            exact (pin' b hb o e).2
        cases b with
        | false => exact fin I9 q9
        | true =>
          refine thnF (pe.run _ s9 σ8 H9 _ I9 q9) ?_
          rintro z s10 ⟨yv, H10, I10, r10, c, rfl, hD10, hz, nx⟩
          refine thnF (mt_sadd (X := X.blk s3 H3 scope ce fp) _ s10 σ8 H10 (.ref D) [.int c] (.ref D) [z] (fun _ H' => H' = upd H10 D (mem_ X.w D (c :: l))) I10 rfl (.cons r10 .nil)
            ⟨D, c, fun j => decide (j ∈ l), many l, rfl, rfl, hD10, Nat.lt_of_le_of_lt (Nat.succ_le_of_lt hz) (by decide), by rw [mem_cons_]⟩) ?_
          rintro _ s11 ⟨_, H11, I11, _, rfl⟩
          exact fin I11 nx
    exact PpSet.codeAny_compStart_set loop (T.self X.A 0 _ _ _ st4' loop)
  exact goal
theorem x_soSc {elt tg iter : Expr} {ifs : List Expr} {scope : Scope} {own : List (Str × Nat)} {pos spos p : Pos} {wi : TI} {g : TG} {tt : TT} {te : TE} (hc : X.calm = true) (hN : X.N.Nodup) (hgl : Gl X "sorted") (hm : X.mg "sorted" = none) (hi : PI X tg iter wi) (ok : BlkOk X.N X.env.scope scope own)
    (hg : ∀ (s : Shared) (H : Hp) (C : Addr) (cl : List (Str × Addr)) (fp : List Addr), PG (X.blk s H scope (compEnvC scope cl C X.env) fp) tg g) (ht : ∀ (s : Shared) (H : Hp) (C : Addr) (cl : List (Str × Addr)) (fp : List Addr), PTs (X.blk s H scope (compEnvC scope cl C X.env) fp) ifs tt)
    (he : ∀ (s : Shared) (H : Hp) (C : Addr) (cl : List (Str × Addr)) (fp : List Addr), PE (X.blk s H scope (compEnvC scope cl C X.env) fp) elt te) (hs : ∀ x, foldedSetIterable iter X.env x = pure x := by intro _; rfl)
    (hst : starEach [.SetComp elt [⟨tg, iter, ifs, 0⟩] scope spos] X.env = (false, eval (.SetComp elt [⟨tg, iter, ifs, 0⟩] scope spos) X.env) :: starEach [] X.env := by rfl) :
    PE X (.Call (.Name "sorted" p) [.SetComp elt [⟨tg, iter, ifs, 0⟩] scope spos] [] pos) (tSoSc wi g tt te (own.map (·.2))) := by
  have arg : PE X (.SetComp elt [⟨tg, iter, ifs, 0⟩] scope spos) (fun σ H Q => ∃ Qs : VK, tSoSc wi g tt te (own.map (·.2)) σ H Qs ∧ ∀ (D : Addr) (l : List Int) (H' : Hp), H' D = some (mem_ X.w D l) → many l < 64 →
      (∀ (out : List Int) (p : Addr), out.Pairwise (· < ·) → (∀ k : Int, k ∈ out ↔ k ∈ l) → H' p = none → Qs (.ref p) (upd H' p (.lst (out.map V.int)))) → Q (.ref D) H') := by
    refine ⟨fun pins s σ H Q I ⟨Qs, h, hq⟩ => ?_⟩
    rw [PpSet.eval_SetComp]
    exact sosc_core hc hN I hi ok hg ht he hs h fun D l s' H' I' hD h64 k => ⟨.ref D, H', I', rfl, hq D l H' hD h64 k⟩
  have all := pe_callB (x := "sorted") (p := p) (pos := pos) (cr_sortedSet hc) hgl hm (by decide +kernel) (pa_cons arg pa_nil hst)
  refine ⟨fun pins s σ H Q I h => all.run pins s σ H Q I ⟨Q, h, fun D l H' hD h64 k => ?_⟩⟩
  exact ⟨D, _, many l, rfl, hD, h64, fun ns p h1 h2 _ h4 => k ns p h1 (fun z => (h2 z).trans decide_eq_true_iff) h4⟩
end
/-! Own work: readings, one step a lemma (g_..), and the word `walk_at "go"` that takes them by the head of the goal. -/
open PySem PySem.Spec L2
section
variable {K : Frag} {σ : St} {H H' : Hp} {Q : VK} {D : Ends} {ta tb tc te tv : TE} {t u : TT} {ts us : TS} {g : TG} {tl : TA} {x y z v : V} {i j : Int} {p q a b C : Addr} {xs ys vs : List V} {r : R2}
/-! #### values -/
theorem g_var {k : Nat} (h : σ[k]? = some (some v)) (q : Q v H) : tVar k σ H Q := ⟨v, h, q⟩
theorem g_c (q : Q v H) : tC v σ H Q := q
theorem g_op (q : ta σ H fun x H1 => tb σ H1 fun y H2 => r x y H2 Q) : tOp r ta tb σ H Q := q
theorem g_un {r : V → Hp → VK → Prop} (q : ta σ H fun x H1 => r x H1 Q) : tUn r ta σ H Q := q
theorem g_I0 {g : Int → Int → V} (q : Q (g i j) H) : rI0 g (.int i) (.int j) H Q := ⟨i, j, rfl, rfl, q⟩
theorem g_I {c : Int → Int → Prop} {g : Int → Int → V} (h : c i j) (q : Q (g i j) H) : rI c g (.int i) (.int j) H Q := ⟨i, j, rfl, rfl, h, q⟩
theorem g_U {g : Int → V} (q : Q (g i) H) : rU g (.int i) H Q := ⟨i, rfl, q⟩
/-- products and quotients by a small number; powers of small numbers -/
theorem g_mulR {g : Int → Int → V} (h : -(2 ^ 64) < j ∧ j < 2 ^ 64) (q : Q (g i j) H) : rI CMul g (.int i) (.int j) H Q := g_I (.inr h) q
theorem g_mulL {g : Int → Int → V} (h : -(2 ^ 64) < i ∧ i < 2 ^ 64) (q : Q (g i j) H) : rI CMul g (.int i) (.int j) H Q := g_I (.inl h) q
theorem g_fld {f : Str} (q : ta σ H fun x H1 => ∃ a dx fs v, x = .ref a ∧ H1 a = some (.ins C dx fs) ∧ fs.lookup f = some v ∧ Q v H1) : tFldC C ta f σ H Q := q
theorem g_fldv {dx : Addr} {fs : List (Str × V)} {f : Str} {R : V → Prop} (h : H a = some (.ins C dx fs)) (l : fs.lookup f = some v) (q : R v) : ∃ a' dx fs v, V.ref a = .ref a' ∧ H a' = some (.ins C dx fs) ∧ fs.lookup f = some v ∧ R v := ⟨a, dx, fs, v, rfl, h, l, q⟩
theorem g_tup (q : tl σ H fun xs H1 => xs.length ≤ sizeLine ∧ ∀ p, H1 p = none → Q (.ref p) (upd H1 p (.tup xs))) : tTup tl σ H Q := q
theorem g_lst (q : tl σ H fun xs H1 => xs.length ≤ sizeLine ∧ ∀ p, H1 p = none → Q (.ref p) (upd H1 p (.lst xs))) : tLst tl σ H Q := q
theorem g_newN {n : Nat} {R : Addr → Prop} (h : n ≤ 1000) (q : ∀ p, H p = none → R p) : n ≤ sizeLine ∧ ∀ p, H p = none → R p := ⟨Nat.le_trans h (by decide), q⟩
theorem g_nil {Q : List V → Hp → Prop} (q : Q [] H) : tNil σ H Q := q
theorem g_cons {Q : List V → Hp → Prop} (q : ta σ H fun x H1 => tl σ H1 fun xs H2 => Q (x :: xs) H2) : tCons ta tl σ H Q := q
theorem g_cb {r : List V → Hp → VK → Prop} (q : tl σ H fun vs H1 => r vs H1 Q) : tCB r tl σ H Q := q
theorem g_call {sp : Sp} {dvs : List V} {W : WX} (q : tl σ H fun vs H1 => sp (vs ++ dvs) H1 Q fun cls d H2 => W cls d σ H2) : tCallG sp dvs W tl σ H Q := q
theorem g_meth {m : Str} {sp : Sp} {dvs : List V} {W : WX} (q : ta σ H fun x H1 => ∃ a dx fs, x = .ref a ∧ H1 a = some (.ins C dx fs) ∧ fs.lookup m = none ∧ tl σ H1 fun vs H2 => sp (x :: (vs ++ dvs)) H2 Q fun cls d H3 => W cls d σ H3) : tMethG C m sp dvs W ta tl σ H Q := q
theorem g_methv {dx : Addr} {fs : List (Str × V)} {m : Str} {R : Prop} (h : H a = some (.ins C dx fs)) (l : fs.lookup m = none) (q : R) : ∃ a' dx fs, V.ref a = .ref a' ∧ H a' = some (.ins C dx fs) ∧ fs.lookup m = none ∧ R := ⟨a, dx, fs, rfl, h, l, q⟩
theorem g_make {sp : Sp} {dvs : List V} {W : WX} (q : tl σ H fun vs H1 => ∀ x dx, H1 x = none → H1 dx = none → dx ≠ x → sp (.ref x :: (vs ++ dvs)) (upd (upd H1 dx (.own x)) x (.ins C dx [])) (fun v H2 => v = .non ∧ Q (.ref x) H2) fun cls d H2 => W cls d σ H2) : tMakeG C sp dvs W tl σ H Q := q
/-! #### items -/
theorem g_ixL {n : Nat} (h : SqL K H p xs) (e : xs[n]? = some v) (hi : i = (n : Int)) (q : Q v H) : rIxL K (.ref p) (.int i) H Q := ⟨p, xs, i, v, rfl, rfl, h, by rw [hi]; exact atI_nat e, q⟩
theorem g_ixT {n : Nat} (h : SqT K H p xs) (e : xs[n]? = some v) (hi : i = (n : Int)) (q : Q v H) : rIxT K (.ref p) (.int i) H Q := ⟨p, xs, i, v, rfl, rfl, h, by rw [hi]; exact atI_nat e, q⟩
theorem g_setL {n : Nat} {Q : Hp → Prop} (h : H p = some (.lst xs)) (hn : n < xs.length) (hi : i = (n : Int)) (q : Q (upd H p (.lst (xs.set n v)))) : rSetL (.ref p) (.int i) v H Q :=
  ⟨p, xs, i, n, rfl, rfl, h, by rw [hi]; unfold ixN; rw [if_pos (by omega), if_pos (by omega), Int.toNat_natCast], q⟩
/-! #### comparisons -/
theorem dec_intI : decide (V.int i = V.int j) = decide (i = j) := by
  by_cases e : i = j
  · subst e; simp
  · have h : ¬ V.int i = V.int j := fun z => e (V.int.inj z)
    rw [decide_eq_false h, decide_eq_false e]
theorem dec_strS {a b : Str} : decide (V.str a = V.str b) = decide (a = b) := by
  by_cases e : a = b
  · subst e; simp
  · have h : ¬ V.str a = V.str b := fun z => e (V.str.inj z)
    rw [decide_eq_false h, decide_eq_false e]
theorem dec_blB {a b : Bool} : decide (V.bl a = V.bl b) = decide (a = b) := by cases a <;> cases b <;> rfl
theorem g_eqI (q : Q (.bl (decide (i = j))) H) : rEq (.int i) (.int j) H Q := ⟨rfl, by rw [dec_intI]; exact q⟩
theorem g_neI (q : Q (.bl (!decide (i = j))) H) : rNe (.int i) (.int j) H Q := ⟨rfl, by rw [dec_intI]; exact q⟩
theorem g_eqS {a b : Str} (q : Q (.bl (decide (a = b))) H) : rEq (.str a) (.str b) H Q := ⟨rfl, by rw [dec_strS]; exact q⟩
theorem g_neS {a b : Str} (q : Q (.bl (!decide (a = b))) H) : rNe (.str a) (.str b) H Q := ⟨rfl, by rw [dec_strS]; exact q⟩
theorem g_eqB {a b : Bool} (q : Q (.bl (decide (a = b))) H) : rEq (.bl a) (.bl b) H Q := ⟨rfl, by rw [dec_blB]; exact q⟩
theorem g_neB {a b : Bool} (q : Q (.bl (!decide (a = b))) H) : rNe (.bl a) (.bl b) H Q := ⟨rfl, by rw [dec_blB]; exact q⟩
theorem g_isN0 (q : Q (.bl true) H) : rIsN .non .non H Q := ⟨rfl, q⟩
theorem g_isNi (q : Q (.bl false) H) : rIsN (.int i) .non H Q := ⟨rfl, q⟩
theorem g_isNr (q : Q (.bl false) H) : rIsN (.ref p) .non H Q := ⟨rfl, q⟩
theorem g_notN0 (q : Q (.bl false) H) : rNotN .non .non H Q := ⟨rfl, q⟩
theorem g_notNi (q : Q (.bl true) H) : rNotN (.int i) .non H Q := ⟨rfl, q⟩
theorem g_notNr (q : Q (.bl true) H) : rNotN (.ref p) .non H Q := ⟨rfl, q⟩
/-! #### tests -/
theorem g_test {Q : Bool → Hp → Prop} (q : te σ H fun x H' => ∃ k, x = .bl k ∧ Q k H') : tTest te σ H Q := q
theorem g_B {Q : Bool → Hp → Prop} (q : te σ H fun x H' => ∃ k, x = .bl k ∧ Q k H') : tB te σ H Q := q
theorem g_bl {c : Bool} {R : Bool → Prop} (q : R c) : ∃ k, V.bl c = .bl k ∧ R k := ⟨c, rfl, q⟩
theorem g_and {Q : Bool → Hp → Prop} (q : t σ H fun c H1 => if c = true then u σ H1 Q else Q false H1) : tAnd t u σ H Q := q
theorem g_or {Q : Bool → Hp → Prop} (q : t σ H fun c H1 => if c = true then Q true H1 else u σ H1 Q) : tOr t u σ H Q := q
theorem g_not {Q : Bool → Hp → Prop} (q : t σ H fun c H1 => Q (!c) H1) : tNot t σ H Q := q
theorem g_andV (q : ta σ H fun x H1 => ∃ c, x = .bl c ∧ if c = true then tb σ H1 Q else Q (.bl false) H1) : tAndV ta tb σ H Q := q
theorem g_orV (q : ta σ H fun x H1 => ∃ c, x = .bl c ∧ if c = true then Q (.bl true) H1 else tb σ H1 Q) : tOrV ta tb σ H Q := q
theorem g_notV (q : ta σ H fun x H1 => ∃ c, x = .bl c ∧ Q (.bl (!c)) H1) : tNotV ta σ H Q := q
theorem g_if {tt : TT} (q : tt σ H fun c H1 => if c = true then ta σ H1 Q else tb σ H1 Q) : tIf tt ta tb σ H Q := q
theorem g_itT {A B : Prop} (q : A) : if true = true then A else B := by rw [if_pos rfl]; exact q
theorem g_itF {A B : Prop} (q : B) : if false = true then A else B := by rw [if_neg Bool.false_ne_true]; exact q
theorem g_it {c : Prop} [Decidable c] {A B : Prop} (h1 : c → A) (h2 : ¬ c → B) : if decide c = true then A else B := by
  by_cases h : c
  · rw [if_pos (decide_eq_true h)]; exact h1 h
  · rw [if_neg (by rw [decide_eq_true_eq]; exact h)]; exact h2 h
theorem g_itn {c : Prop} [Decidable c] {A B : Prop} (h1 : ¬ c → A) (h2 : c → B) : if (!decide c) = true then A else B := by
  by_cases h : c
  · rw [decide_eq_true h]; exact g_itF (h2 h)
  · rw [decide_eq_false h]; exact g_itT (h1 h)
theorem g_itb {c : Bool} {A B : Prop} (h1 : c = true → A) (h2 : c = false → B) : if c = true then A else B := by
  cases c with
  | true => exact g_itT (h1 rfl)
  | false => exact g_itF (h2 rfl)
/-- the outcome is known -/
theorem g_yes {c : Bool} {A B : Prop} (h : c = true) (q : A) : if c = true then A else B := by rw [if_pos h]; exact q
theorem g_no {c : Bool} {A B : Prop} (h : c = false) (q : B) : if c = true then A else B := by rw [h]; exact g_itF q
/-! #### statements -/
theorem g_seq {n b c : St → Hp → Prop} {r : VK} (q : ts ⟨us ⟨n, r, b, c⟩, r, b, c⟩ σ H) : tSeq ts us ⟨n, r, b, c⟩ σ H := q
theorem g_cut {n b c : St → Hp → Prop} {r : VK} (Mid : St → Hp → Prop) (h : ts ⟨Mid, r, b, c⟩ σ H) (k : ∀ σ' H', Mid σ' H' → us ⟨n, r, b, c⟩ σ' H') : tCutG ts us ⟨n, r, b, c⟩ σ H := ⟨Mid, h, k⟩
theorem g_nx (q : D.nx σ H) : tNext D σ H := q
theorem g_brk (q : D.bk σ H) : tBreak D σ H := q
theorem g_ct (q : D.ct σ H) : tCont D σ H := q
theorem g_drop (q : te σ H fun _ H1 => D.nx σ H1) : tDrop te D σ H := q
theorem g_ret (q : te σ H D.rt) : tRet te D σ H := q
theorem g_retN (q : D.rt .non H) : tRetN D σ H := q
theorem g_ifS {tt : TT} (q : tt σ H fun b H1 => if b = true then ts D σ H1 else us D σ H1) : tIfS tt ts us D σ H := q
theorem g_asg (q : te σ H fun x H1 => g x σ H1 D.nx) : tAsg te g D σ H := q
theorem g_name {k : Nat} {Q : St → Hp → Prop} (q : Q (σ.set k (some v)) H) : gName k v σ H Q := q
theorem g_aug {k : Nat} {f : Int → Int → Int} (h : σ[k]? = some (some (.int i))) (q : te σ H fun y H1 => ipI f (.int i) y H1 fun z H2 => D.nx (σ.set k (some z)) H2) : tAug k te (ipI f) D σ H := ⟨_, h, q⟩
theorem g_ipI {f : Int → Int → Int} (q : Q (.int (f i j)) H) : ipI f (.int i) (.int j) H Q := ⟨i, j, rfl, rfl, q⟩
theorem g_sub {to ti : TE} {s : TSet} {Q : St → Hp → Prop} (q : to σ H fun o H1 => ti σ H1 fun i H2 => s o i v H2 fun H3 => Q σ H3) : gSub to ti s v σ H Q := q
theorem g_sfld {f : Str} (q : tv σ H fun y H1 => ta σ H1 fun x H2 => ∃ a dx fs, x = .ref a ∧ H2 a = some (.ins C dx fs) ∧ fs.length < 1000 ∧ D.nx σ (upd H2 a (.ins C dx (putF f y fs)))) : sFldC C ta tv f D σ H := q
theorem g_sfldv {dx : Addr} {fs fs' : List (Str × V)} {f : Str} {R : Hp → Prop} (h : H a = some (.ins C dx fs)) (l : fs.length < 1000) (e : putF f y fs = fs') (q : R (upd H a (.ins C dx fs'))) :
    ∃ a' dx fs, V.ref a = .ref a' ∧ H a' = some (.ins C dx fs) ∧ fs.length < 1000 ∧ R (upd H a' (.ins C dx (putF f y fs))) := ⟨a, dx, fs, rfl, h, l, by rw [e]; exact q⟩
theorem g_raise {W : WX} (q : W (.ref C) none σ H) : tRaiseC W C D σ H := q
/-! #### built-ins -/
theorem g_lenL (h : SqL K H p xs) (q : Q (.int (xs.length : Nat)) H) : rLenQ K [.ref p] H Q := ⟨p, xs, rfl, .inl h, q⟩
theorem g_lenT (h : SqT K H p xs) (q : Q (.int (xs.length : Nat)) H) : rLenQ K [.ref p] H Q := ⟨p, xs, rfl, .inr h, q⟩
theorem g_lenS {z : Str} (h : z.length ≤ 1000000) (q : Q (.int (z.length : Nat)) H) : rLenS [.str z] H Q := ⟨z, rfl, Nat.le_trans h (by decide), q⟩
theorem g_intI (q : Q (.int i) H) : rInt [.int i] H Q := .inl ⟨i, rfl, q⟩
theorem g_intB {k : Bool} (q : Q (.int (if k then 1 else 0)) H) : rInt [.bl k] H Q := .inr ⟨k, rfl, q⟩
theorem g_max (q : Q (.int (if j > i then j else i)) H) : rMax2 [.int i, .int j] H Q := ⟨i, j, rfl, q⟩
theorem g_min (q : Q (.int (if j < i then j else i)) H) : rMin2 [.int i, .int j] H Q := ⟨i, j, rfl, q⟩
theorem g_bm {r : V → List V → Hp → VK → Prop} (q : ta σ H fun x H1 => tyV K "list" x H1 ∧ tl σ H1 fun xs H2 => r x xs H2 Q) : tBM K "list" r ta tl σ H Q := q
theorem g_bm0 {r : V → List V → Hp → VK → Prop} (q : ta σ H fun x H1 => tyV K "list" x H1 ∧ r x [] H1 Q) : tBM0 K "list" r ta σ H Q := q
theorem g_tyL {R : Prop} (h : H p = some (.lst xs)) (q : R) : tyV K "list" (.ref p) H ∧ R := ⟨.inl ⟨rfl, _, SqL.of h⟩, q⟩
theorem g_app (h : H p = some (.lst xs)) (l : xs.length < 1000000) (q : Q .non (upd H p (.lst (xs ++ [v])))) : rAppend (.ref p) [v] H Q := ⟨p, xs, v, rfl, rfl, h, Nat.lt_of_lt_of_le l (by decide), q⟩
theorem g_cat (h : H p = some (.lst xs)) (h' : H q = some (.lst ys)) (l : xs.length + ys.length ≤ 1000000) (k : ∀ r, H r = none → Q (.ref r) (upd H r (.lst (xs ++ ys)))) : rCat (.ref p) (.ref q) H Q := ⟨p, q, xs, ys, rfl, rfl, h, h', Nat.le_trans l (by decide), k⟩
theorem g_rep1 (h : H p = some (.lst [v])) (h0 : 0 ≤ i) (l : i ≤ 1000000) (k : ∀ r, H r = none → Q (.ref r) (upd H r (.lst (List.replicate i.toNat v)))) : rRep (.ref p) (.int i) H Q := by
  refine ⟨p, i, [v], rfl, rfl, h, by omega, by omega, ?_, ?_⟩
  · show 1 * i.toNat ≤ sizeLine
    have : (1000000 : Nat) ≤ sizeLine := by decide
    omega
  · intro r hr
    have e : (List.replicate i.toNat [v]).flatten = List.replicate i.toNat v := by
      generalize i.toNat = n
      induction n with
      | zero => rfl
      | succ n ih => rw [List.replicate_succ, List.flatten_cons, ih, List.replicate_succ]; rfl
    rw [e]
    exact k r hr
theorem g_listL (h : SqL K H p xs) (k : ∀ l, H l = none → Q (.ref l) (upd H l (.lst xs))) : rListOf K [.ref p] H Q := ⟨p, xs, rfl, .inl h, k⟩
theorem g_listT (h : SqT K H p xs) (k : ∀ l, H l = none → Q (.ref l) (upd H l (.lst xs))) : rListOf K [.ref p] H Q := ⟨p, xs, rfl, .inr h, k⟩
theorem g_tupL (h : SqL K H p xs) (k : ∀ l, H l = none → Q (.ref l) (upd H l (.tup xs))) : rTupOf K [.ref p] H Q := ⟨p, xs, rfl, .inl ⟨h, k⟩⟩
theorem g_tupT (h : SqT K H p xs) (q : Q (.ref p) H) : rTupOf K [.ref p] H Q := ⟨p, xs, rfl, .inr ⟨h, q⟩⟩
end
/-! ### heaps -/
section
variable {H H' : Hp} {a b p q : Addr} {o u : HO}
/-- a new address is none of the known ones -/
theorem new_ne (h : H a = some o) (n : H p = none) : a ≠ p := ne_of_none h n
theorem new_of_upd (n : upd H a o p = none) : p ≠ a ∧ H p = none := by
  by_cases e : p = a
  · subst e; rw [upd_same] at n; cases n
  · exact ⟨e, by rw [upd_ne e] at n; exact n⟩
theorem at_upd (e : b ≠ a) (h : H b = some u) : upd H a o b = some u := by rw [upd_ne e]; exact h
theorem none_upd (e : b ≠ a) (h : H b = none) : upd H a o b = none := by rw [upd_ne e]; exact h
/-- all that is known but at ms stays -/
def Keep (ms : List Addr) (H H' : Hp) : Prop := ∀ b o, H b = some o → b ∉ ms → H' b = some o
theorem Keep.at {ms : List Addr} (k : Keep ms H H') (h : H b = some o) (n : b ∉ ms) : H' b = some o := k b o h n
theorem Keep.of_same (s : Same H H') : Keep [] H H' := fun b o h _ => s b o h
theorem Keep.refl (ms : List Addr) (H : Hp) : Keep ms H H := fun _ _ h _ => h
theorem Keep.trans {ms : List Addr} {H1 : Hp} (k : Keep ms H H1) (k' : Keep ms H1 H') : Keep ms H H' := fun b o h n => k' b o (k b o h n) n
theorem Keep.new {ms : List Addr} (k : Keep ms H H') (n : H' p = none) : Keep ms H (upd H' p o) := fun b u h m => at_upd (ne_of_none (k b u h m) n) (k b u h m)
theorem Keep.mut {ms : List Addr} (k : Keep ms H H') (m : p ∈ ms) : Keep ms H (upd H' p o) := fun b u h n => at_upd (fun e => n (e ▸ m)) (k b u h n)
theorem Keep.mutN {ms : List Addr} (k : Keep ms H H') (n : H p = none) : Keep ms H (upd H' p o) := fun b u h m => at_upd (ne_of_none h n) (k b u h m)
theorem Keep.seqL {ms : List Addr} {K : Frag} {xs : List V} (k : Keep ms H H') (h : SqL K H a xs) (n : a ∉ ms) : SqL K H' a xs := by
  rcases h with (h | ⟨o, h⟩) | h
  · exact .inl (.inl (k _ _ h n))
  · exact .inl (.inr ⟨o, k _ _ h n⟩)
  · exact .inr h
theorem Keep.seqT {ms : List Addr} {K : Frag} {xs : List V} (k : Keep ms H H') (h : SqT K H a xs) (n : a ∉ ms) : SqT K H' a xs := by
  rcases h with (h | ⟨o, h⟩) | h
  · exact .inl (.inl (k _ _ h n))
  · exact .inl (.inr ⟨o, k _ _ h n⟩)
  · exact .inr h
theorem Keep.free {H1 : Hp} (k : Keep [] H H1) (n : H1 p = none) : H p = none := by
  cases e : H p with
  | none => rfl
  | some o => rw [k p o e (by simp)] at n; cases n
end
open PySem PySem.Spec L2
section
variable {K : Frag} {σ : St} {H H' : Hp} {Q : VK} {D : Ends} {ta tb tc te tv : TE} {t u : TT} {ts us : TS} {g : TG} {tl : TA} {x y z v : V} {i j : Int} {p q a b C : Addr} {xs ys vs : List V} {r : R2}
/-! #### looks at the head of a goal -/
theorem hd_var {k : Nat} (q : tVar k σ H Q) : tVar k σ H Q := q
theorem hd_mul {g : Int → Int → V} (q : rI CMul g x y H Q) : rI CMul g x y H Q := q
theorem hd_div {g : Int → Int → V} (q : rI CDiv g x y H Q) : rI CDiv g x y H Q := q
theorem hd_mod {g : Int → Int → V} (q : rI (fun _ j => 0 < j) g x y H Q) : rI (fun _ j => 0 < j) g x y H Q := q
theorem hd_pow {g : Int → Int → V} (q : rI CPow g x y H Q) : rI CPow g x y H Q := q
theorem g_div {g : Int → Int → V} (h : 0 < j ∧ j < 1073741824) (q : Q (g i j) H) : rI CDiv g (.int i) (.int j) H Q := g_I h q
theorem g_mod {g : Int → Int → V} (h : 0 < j) (q : Q (g i j) H) : rI (fun _ j => 0 < j) g (.int i) (.int j) H Q := g_I h q
theorem g_pow {g : Int → Int → V} (h : 0 ≤ j ∧ j ≤ 1000000 ∧ i.natAbs < 2 ^ 64) (q : Q (g i j) H) : rI CPow g (.int i) (.int j) H Q := g_I h q
theorem hd_fld {f : Str} (q : tFldC C ta f σ H Q) : tFldC C ta f σ H Q := q
theorem hd_fldv {f : Str} {R : V → Prop} (q : ∃ a' dx fs v, x = V.ref a' ∧ H a' = some (.ins C dx fs) ∧ fs.lookup f = some v ∧ R v) : ∃ a' dx fs v, x = V.ref a' ∧ H a' = some (.ins C dx fs) ∧ fs.lookup f = some v ∧ R v := q
theorem hd_methv {f : Str} {R : Prop} (q : ∃ a' dx fs, x = V.ref a' ∧ H a' = some (.ins C dx fs) ∧ fs.lookup f = none ∧ R) : ∃ a' dx fs, x = V.ref a' ∧ H a' = some (.ins C dx fs) ∧ fs.lookup f = none ∧ R := q
theorem hd_lenQ (q : rLenQ K vs H Q) : rLenQ K vs H Q := q
theorem hd_aug {k : Nat} {f : Int → Int → Int} (q : tAug k te (ipI f) D σ H) : tAug k te (ipI f) D σ H := q
theorem hd_sfld {f : Str} (q : sFldC C ta tv f D σ H) : sFldC C ta tv f D σ H := q
theorem hd_sfldv {f : Str} {R : Hp → Prop} (q : ∃ a' dx fs, x = V.ref a' ∧ H a' = some (.ins C dx fs) ∧ fs.length < 1000 ∧ R (upd H a' (.ins C dx (putF f y fs)))) : ∃ a' dx fs, x = V.ref a' ∧ H a' = some (.ins C dx fs) ∧ fs.length < 1000 ∧ R (upd H a' (.ins C dx (putF f y fs))) := q
theorem pf0 {f : Str} {v : V} : putF f v [] = [(f, v)] := rfl
theorem pfs {f : Str} {v w : V} {r : List (Str × V)} : putF f v ((f, w) :: r) = (f, v) :: r := if_pos rfl
theorem pfn {f g : Str} {v w : V} {r r' : List (Str × V)} (h : ¬ g = f) (e : putF f v r = r') : putF f v ((g, w) :: r) = (g, w) :: r' := (if_neg h).trans (by rw [e])
theorem hd_setL {Q : Hp → Prop} (q : rSetL x y v H Q) : rSetL x y v H Q := q
theorem hd_tyL {R : Prop} (q : tyV K "list" x H ∧ R) : tyV K "list" x H ∧ R := q
theorem hd_listOf (q : rListOf K vs H Q) : rListOf K vs H Q := q
theorem nm1 {b x : Addr} (h : b ≠ x) : b ∉ [x] := by simpa using h
theorem nm2 {b x y : Addr} (h : b ≠ x) (h2 : b ≠ y) : b ∉ [x, y] := by simp [h, h2]
theorem nm3 {b x y z : Addr} (h : b ≠ x) (h2 : b ≠ y) (h3 : b ≠ z) : b ∉ [x, y, z] := by simp [h, h2, h3]
theorem nm4 {b x y z u : Addr} (h : b ≠ x) (h2 : b ≠ y) (h3 : b ≠ z) (h4 : b ≠ u) : b ∉ [x, y, z, u] := by simp [h, h2, h3, h4]
/-! #### what a new address is not -/
section
variable {H : Hp} {p q : Addr} {o : HO}
theorem nu1 (n : upd H q o p = none) : p ≠ q := (new_of_upd n).1
theorem fr1 (n : upd H q o p = none) : H p = none := (new_of_upd n).2
theorem nu2 {q2 : Addr} {o2 : HO} (n : upd (upd H q o) q2 o2 p = none) : p ≠ q := nu1 (new_of_upd n).2
theorem fr2 {q2 : Addr} {o2 : HO} (n : upd (upd H q o) q2 o2 p = none) : H p = none := fr1 (new_of_upd n).2
theorem nu3 {q2 : Addr} {o2 : HO} {q3 : Addr} {o3 : HO} (n : upd (upd (upd H q o) q2 o2) q3 o3 p = none) : p ≠ q := nu2 (new_of_upd n).2
theorem fr3 {q2 : Addr} {o2 : HO} {q3 : Addr} {o3 : HO} (n : upd (upd (upd H q o) q2 o2) q3 o3 p = none) : H p = none := fr2 (new_of_upd n).2
theorem nu4 {q2 : Addr} {o2 : HO} {q3 : Addr} {o3 : HO} {q4 : Addr} {o4 : HO} (n : upd (upd (upd (upd H q o) q2 o2) q3 o3) q4 o4 p = none) : p ≠ q := nu3 (new_of_upd n).2
theorem fr4 {q2 : Addr} {o2 : HO} {q3 : Addr} {o3 : HO} {q4 : Addr} {o4 : HO} (n : upd (upd (upd (upd H q o) q2 o2) q3 o3) q4 o4 p = none) : H p = none := fr3 (new_of_upd n).2
theorem nu5 {q2 : Addr} {o2 : HO} {q3 : Addr} {o3 : HO} {q4 : Addr} {o4 : HO} {q5 : Addr} {o5 : HO} (n : upd (upd (upd (upd (upd H q o) q2 o2) q3 o3) q4 o4) q5 o5 p = none) : p ≠ q := nu4 (new_of_upd n).2
theorem fr5 {q2 : Addr} {o2 : HO} {q3 : Addr} {o3 : HO} {q4 : Addr} {o4 : HO} {q5 : Addr} {o5 : HO} (n : upd (upd (upd (upd (upd H q o) q2 o2) q3 o3) q4 o4) q5 o5 p = none) : H p = none := fr4 (new_of_upd n).2
theorem nu6 {q2 : Addr} {o2 : HO} {q3 : Addr} {o3 : HO} {q4 : Addr} {o4 : HO} {q5 : Addr} {o5 : HO} {q6 : Addr} {o6 : HO} (n : upd (upd (upd (upd (upd (upd H q o) q2 o2) q3 o3) q4 o4) q5 o5) q6 o6 p = none) : p ≠ q := nu5 (new_of_upd n).2
theorem fr6 {q2 : Addr} {o2 : HO} {q3 : Addr} {o3 : HO} {q4 : Addr} {o4 : HO} {q5 : Addr} {o5 : HO} {q6 : Addr} {o6 : HO} (n : upd (upd (upd (upd (upd (upd H q o) q2 o2) q3 o3) q4 o4) q5 o5) q6 o6 p = none) : H p = none := fr5 (new_of_upd n).2
theorem nu7 {q2 : Addr} {o2 : HO} {q3 : Addr} {o3 : HO} {q4 : Addr} {o4 : HO} {q5 : Addr} {o5 : HO} {q6 : Addr} {o6 : HO} {q7 : Addr} {o7 : HO} (n : upd (upd (upd (upd (upd (upd (upd H q o) q2 o2) q3 o3) q4 o4) q5 o5) q6 o6) q7 o7 p = none) : p ≠ q := nu6 (new_of_upd n).2
theorem fr7 {q2 : Addr} {o2 : HO} {q3 : Addr} {o3 : HO} {q4 : Addr} {o4 : HO} {q5 : Addr} {o5 : HO} {q6 : Addr} {o6 : HO} {q7 : Addr} {o7 : HO} (n : upd (upd (upd (upd (upd (upd (upd H q o) q2 o2) q3 o3) q4 o4) q5 o5) q6 o6) q7 o7 p = none) : H p = none := fr6 (new_of_upd n).2
theorem nu8 {q2 : Addr} {o2 : HO} {q3 : Addr} {o3 : HO} {q4 : Addr} {o4 : HO} {q5 : Addr} {o5 : HO} {q6 : Addr} {o6 : HO} {q7 : Addr} {o7 : HO} {q8 : Addr} {o8 : HO} (n : upd (upd (upd (upd (upd (upd (upd (upd H q o) q2 o2) q3 o3) q4 o4) q5 o5) q6 o6) q7 o7) q8 o8 p = none) : p ≠ q := nu7 (new_of_upd n).2
theorem fr8 {q2 : Addr} {o2 : HO} {q3 : Addr} {o3 : HO} {q4 : Addr} {o4 : HO} {q5 : Addr} {o5 : HO} {q6 : Addr} {o6 : HO} {q7 : Addr} {o7 : HO} {q8 : Addr} {o8 : HO} (n : upd (upd (upd (upd (upd (upd (upd (upd H q o) q2 o2) q3 o3) q4 o4) q5 o5) q6 o6) q7 o7) q8 o8 p = none) : H p = none := fr7 (new_of_upd n).2
theorem nu9 {q2 : Addr} {o2 : HO} {q3 : Addr} {o3 : HO} {q4 : Addr} {o4 : HO} {q5 : Addr} {o5 : HO} {q6 : Addr} {o6 : HO} {q7 : Addr} {o7 : HO} {q8 : Addr} {o8 : HO} {q9 : Addr} {o9 : HO} (n : upd (upd (upd (upd (upd (upd (upd (upd (upd H q o) q2 o2) q3 o3) q4 o4) q5 o5) q6 o6) q7 o7) q8 o8) q9 o9 p = none) : p ≠ q := nu8 (new_of_upd n).2
theorem fr9 {q2 : Addr} {o2 : HO} {q3 : Addr} {o3 : HO} {q4 : Addr} {o4 : HO} {q5 : Addr} {o5 : HO} {q6 : Addr} {o6 : HO} {q7 : Addr} {o7 : HO} {q8 : Addr} {o8 : HO} {q9 : Addr} {o9 : HO} (n : upd (upd (upd (upd (upd (upd (upd (upd (upd H q o) q2 o2) q3 o3) q4 o4) q5 o5) q6 o6) q7 o7) q8 o8) q9 o9 p = none) : H p = none := fr8 (new_of_upd n).2
theorem nu10 {q2 : Addr} {o2 : HO} {q3 : Addr} {o3 : HO} {q4 : Addr} {o4 : HO} {q5 : Addr} {o5 : HO} {q6 : Addr} {o6 : HO} {q7 : Addr} {o7 : HO} {q8 : Addr} {o8 : HO} {q9 : Addr} {o9 : HO} {q10 : Addr} {o10 : HO} (n : upd (upd (upd (upd (upd (upd (upd (upd (upd (upd H q o) q2 o2) q3 o3) q4 o4) q5 o5) q6 o6) q7 o7) q8 o8) q9 o9) q10 o10 p = none) : p ≠ q := nu9 (new_of_upd n).2
theorem fr10 {q2 : Addr} {o2 : HO} {q3 : Addr} {o3 : HO} {q4 : Addr} {o4 : HO} {q5 : Addr} {o5 : HO} {q6 : Addr} {o6 : HO} {q7 : Addr} {o7 : HO} {q8 : Addr} {o8 : HO} {q9 : Addr} {o9 : HO} {q10 : Addr} {o10 : HO} (n : upd (upd (upd (upd (upd (upd (upd (upd (upd (upd H q o) q2 o2) q3 o3) q4 o4) q5 o5) q6 o6) q7 o7) q8 o8) q9 o9) q10 o10 p = none) : H p = none := fr9 (new_of_upd n).2
theorem nu11 {q2 : Addr} {o2 : HO} {q3 : Addr} {o3 : HO} {q4 : Addr} {o4 : HO} {q5 : Addr} {o5 : HO} {q6 : Addr} {o6 : HO} {q7 : Addr} {o7 : HO} {q8 : Addr} {o8 : HO} {q9 : Addr} {o9 : HO} {q10 : Addr} {o10 : HO} {q11 : Addr} {o11 : HO} (n : upd (upd (upd (upd (upd (upd (upd (upd (upd (upd (upd H q o) q2 o2) q3 o3) q4 o4) q5 o5) q6 o6) q7 o7) q8 o8) q9 o9) q10 o10) q11 o11 p = none) : p ≠ q := nu10 (new_of_upd n).2
theorem fr11 {q2 : Addr} {o2 : HO} {q3 : Addr} {o3 : HO} {q4 : Addr} {o4 : HO} {q5 : Addr} {o5 : HO} {q6 : Addr} {o6 : HO} {q7 : Addr} {o7 : HO} {q8 : Addr} {o8 : HO} {q9 : Addr} {o9 : HO} {q10 : Addr} {o10 : HO} {q11 : Addr} {o11 : HO} (n : upd (upd (upd (upd (upd (upd (upd (upd (upd (upd (upd H q o) q2 o2) q3 o3) q4 o4) q5 o5) q6 o6) q7 o7) q8 o8) q9 o9) q10 o10) q11 o11 p = none) : H p = none := fr10 (new_of_upd n).2
theorem nu12 {q2 : Addr} {o2 : HO} {q3 : Addr} {o3 : HO} {q4 : Addr} {o4 : HO} {q5 : Addr} {o5 : HO} {q6 : Addr} {o6 : HO} {q7 : Addr} {o7 : HO} {q8 : Addr} {o8 : HO} {q9 : Addr} {o9 : HO} {q10 : Addr} {o10 : HO} {q11 : Addr} {o11 : HO} {q12 : Addr} {o12 : HO} (n : upd (upd (upd (upd (upd (upd (upd (upd (upd (upd (upd (upd H q o) q2 o2) q3 o3) q4 o4) q5 o5) q6 o6) q7 o7) q8 o8) q9 o9) q10 o10) q11 o11) q12 o12 p = none) : p ≠ q := nu11 (new_of_upd n).2
theorem fr12 {q2 : Addr} {o2 : HO} {q3 : Addr} {o3 : HO} {q4 : Addr} {o4 : HO} {q5 : Addr} {o5 : HO} {q6 : Addr} {o6 : HO} {q7 : Addr} {o7 : HO} {q8 : Addr} {o8 : HO} {q9 : Addr} {o9 : HO} {q10 : Addr} {o10 : HO} {q11 : Addr} {o11 : HO} {q12 : Addr} {o12 : HO} (n : upd (upd (upd (upd (upd (upd (upd (upd (upd (upd (upd (upd H q o) q2 o2) q3 o3) q4 o4) q5 o5) q6 o6) q7 o7) q8 o8) q9 o9) q10 o10) q11 o11) q12 o12 p = none) : H p = none := fr11 (new_of_upd n).2
end
theorem ne_fresh2 {o : HO} (h : H a = some o) (n : H p = none) : a ≠ p := ne_of_none h n
theorem ne_fresh {o : HO} (n : H p = none) (h : H a = some o) : a ≠ p := ne_of_none h n
/-- the place that is written was new, or holds what is no list and no locked thing -/
def NoSeq (H : Hp) (p : Addr) : Prop := ∀ u, H p = some u → match u with | .lst _ => False | .tup _ => False | .frz _ _ => False | _ => True
theorem noseq_new (n : H p = none) : NoSeq H p := fun u e => by rw [n] at e; cases e
theorem noseq_ins {C dx : Addr} {fs : List (Str × V)} (h : H p = some (.ins C dx fs)) : NoSeq H p := fun u e => by rw [h] at e; cases e; trivial
theorem noseq_dk {kvs : List (Key × V)} (h : H p = some (.dK kvs)) : NoSeq H p := fun u e => by rw [h] at e; cases e; trivial
theorem noseq_dt {kvs : List (List Key × V)} (h : H p = some (.dT kvs)) : NoSeq H p := fun u e => by rw [h] at e; cases e; trivial
theorem seqL_upd {o : HO} (n : NoSeq H p) (h : SqL K H a xs) : SqL K (upd H p o) a xs := by
  rcases h with (h | ⟨u, h⟩) | h
  · exact .inl (.inl (at_upd (fun z => by subst z; exact n _ h) h))
  · exact .inl (.inr ⟨u, at_upd (fun z => by subst z; exact n _ h) h⟩)
  · exact .inr h
theorem seqT_upd {o : HO} (n : NoSeq H p) (h : SqT K H a xs) : SqT K (upd H p o) a xs := by
  rcases h with (h | ⟨u, h⟩) | h
  · exact .inl (.inl (at_upd (fun z => by subst z; exact n _ h) h))
  · exact .inl (.inr ⟨u, at_upd (fun z => by subst z; exact n _ h) h⟩)
  · exact .inr h
/-- a tuple stays where a list is changed -/
theorem seqT_lst {o : HO} {ys : List V} (n : H p = some (.lst ys)) (h : SqT K H a xs) : SqT K (upd H p o) a xs := by
  rcases h with (h | ⟨u, h⟩) | h
  · exact .inl (.inl (at_upd (fun z => by subst z; rw [n] at h; cases h) h))
  · exact .inl (.inr ⟨u, at_upd (fun z => by subst z; rw [n] at h; cases h) h⟩)
  · exact .inr h
theorem seqL_new {o : HO} (n : H p = none) (h : SqL K H a xs) : SqL K (upd H p o) a xs := by
  rcases h with (h | ⟨o, h⟩) | h
  · exact .inl (.inl (at_upd (ne_of_none h n) h))
  · exact .inl (.inr ⟨o, at_upd (ne_of_none h n) h⟩)
  · exact .inr h
theorem seqT_new {o : HO} (n : H p = none) (h : SqT K H a xs) : SqT K (upd H p o) a xs := by
  rcases h with (h | ⟨o, h⟩) | h
  · exact .inl (.inl (at_upd (ne_of_none h n) h))
  · exact .inl (.inr ⟨o, at_upd (ne_of_none h n) h⟩)
  · exact .inr h
end
open PySem PySem.Spec L2
/-! ### loops -/
section
variable {K : Frag} {σ : St} {H H' : Hp} {Q : VK} {D : Ends} {ta tb tc te tv : TE} {tt : TT} {ts us : TS} {g : TG} {tl : TA} {x y z v : V} {i j : Int} {p q a b C : Addr} {xs ys : List V} {wi : TI} {ns : List Nat}
theorem g_for {n b c : St → Hp → Prop} {r : VK} (q : wi σ H fun J H1 => ∃ W : Nat → Nat → St → Hp → Prop, (∃ m, W 0 m σ H1) ∧ ∀ i m σ H, W i m σ H →
  (J.stop i H ∧ n σ H) ∨ (J.go i H ∧ ∃ N : St → Hp → Prop, (∀ σ' H', N σ' H' → ∃ m', m' < m ∧ W (i + 1) m' σ' H') ∧ ∀ x H', J.yld i H x H' → g x σ H' fun σ2 H2 => ts ⟨N, r, n, N⟩ σ2 H2)) : tFor wi g ts ⟨n, r, b, c⟩ σ H := q
theorem g_iR1 {R : It → Hp → Prop} (q : tl σ H fun vs H1 => ∃ j : Int, vs = [.int j] ∧ -(2 ^ 62) ≤ j ∧ j < 2 ^ 62 ∧ R (Itr 0 j.toNat) H1) : iRng1 tl σ H R := q
theorem g_iR2 {R : It → Hp → Prop} (q : tl σ H fun vs H1 => ∃ i j : Int, vs = [.int i, .int j] ∧ (-(2 ^ 62) ≤ i ∧ i < 2 ^ 62 ∧ -(2 ^ 62) ≤ j ∧ j < 2 ^ 62) ∧ R (Itr i (j - i).toNat) H1) : iRng2 tl σ H R := q
theorem g_iL {R : It → Hp → Prop} (q : ta σ H fun x H1 => ∃ a, x = .ref a ∧ (∃ xs, SqL K H1 a xs) ∧ R (Itl K a) H1) : iList K ta σ H R := q
theorem g_iT {R : It → Hp → Prop} (q : ta σ H fun x H1 => ∃ a, x = .ref a ∧ (∃ xs, SqT K H1 a xs) ∧ R (Itt K a) H1) : iTup K ta σ H R := q
/-- for k in range(j) -/
theorem l_rng1 {n : St → Hp → Prop} {r : VK} (Pv : Nat → St → Hp → Prop) (hb : -(2 ^ 62) ≤ j ∧ j < 2 ^ 62) (h0 : Pv 0 σ H)
    (hs : ∀ (i : Nat) σ H, (i : Int) < j → Pv i σ H → g (.int (i : Int)) σ H fun σ2 H2 => ts ⟨Pv (i + 1), r, n, Pv (i + 1)⟩ σ2 H2) (hd : ∀ σ H, Pv j.toNat σ H → n σ H) :
    ∃ j' : Int, [V.int j] = [.int j'] ∧ -(2 ^ 62) ≤ j' ∧ j' < 2 ^ 62 ∧ ∃ W : Nat → Nat → St → Hp → Prop, (∃ m, W 0 m σ H) ∧ ∀ i m σ H, W i m σ H →
      ((Itr 0 j'.toNat).stop i H ∧ n σ H) ∨ ((Itr 0 j'.toNat).go i H ∧ ∃ N : St → Hp → Prop, (∀ σ' H', N σ' H' → ∃ m', m' < m ∧ W (i + 1) m' σ' H') ∧ ∀ x H', (Itr 0 j'.toNat).yld i H x H' → g x σ H' fun σ2 H2 => ts ⟨N, r, n, N⟩ σ2 H2) :=
  ⟨j, rfl, hb.1, hb.2, for_range (D := ⟨n, r, n, n⟩) (lo := 0) (n := j.toNat) Pv h0 (fun i σ H hi p => by rw [Int.zero_add]; exact hs i σ H (by omega) p) hd⟩
/-- for k in range(i, j) -/
theorem l_rng2 {n : St → Hp → Prop} {r : VK} (Pv : Nat → St → Hp → Prop) (hb : -(2 ^ 62) ≤ i ∧ i < 2 ^ 62 ∧ -(2 ^ 62) ≤ j ∧ j < 2 ^ 62) (h0 : Pv 0 σ H)
    (hs : ∀ (k : Nat) σ H, i + (k : Int) < j → Pv k σ H → g (.int (i + (k : Int))) σ H fun σ2 H2 => ts ⟨Pv (k + 1), r, n, Pv (k + 1)⟩ σ2 H2) (hd : ∀ σ H, Pv (j - i).toNat σ H → n σ H) :
    ∃ i' j' : Int, [V.int i, V.int j] = [.int i', .int j'] ∧ (-(2 ^ 62) ≤ i' ∧ i' < 2 ^ 62 ∧ -(2 ^ 62) ≤ j' ∧ j' < 2 ^ 62) ∧ ∃ W : Nat → Nat → St → Hp → Prop, (∃ m, W 0 m σ H) ∧ ∀ i m σ H, W i m σ H →
      ((Itr i' (j' - i').toNat).stop i H ∧ n σ H) ∨ ((Itr i' (j' - i').toNat).go i H ∧ ∃ N : St → Hp → Prop, (∀ σ' H', N σ' H' → ∃ m', m' < m ∧ W (i + 1) m' σ' H') ∧ ∀ x H', (Itr i' (j' - i').toNat).yld i H x H' → g x σ H' fun σ2 H2 => ts ⟨N, r, n, N⟩ σ2 H2) :=
  ⟨i, j, rfl, hb, for_range (D := ⟨n, r, n, n⟩) (lo := i) (n := (j - i).toNat) Pv h0 (fun k σ H hi p => hs k σ H (by omega) p) hd⟩
/-- for x in xs, xs standing still -/
theorem l_list {n : St → Hp → Prop} {r : VK} (Pv : Nat → St → Hp → Prop) (h : SqL K H a xs) (h0 : Pv 0 σ H) (hl : ∀ i σ H, i ≤ xs.length → Pv i σ H → SqL K H a xs)
    (hs : ∀ i x σ H, xs[i]? = some x → Pv i σ H → g x σ H fun σ2 H2 => ts ⟨Pv (i + 1), r, n, Pv (i + 1)⟩ σ2 H2) (hd : ∀ σ H, Pv xs.length σ H → n σ H) :
    ∃ a', V.ref a = .ref a' ∧ (∃ xs, SqL K H a' xs) ∧ ∃ W : Nat → Nat → St → Hp → Prop, (∃ m, W 0 m σ H) ∧ ∀ i m σ H, W i m σ H →
      ((Itl K a').stop i H ∧ n σ H) ∨ ((Itl K a').go i H ∧ ∃ N : St → Hp → Prop, (∀ σ' H', N σ' H' → ∃ m', m' < m ∧ W (i + 1) m' σ' H') ∧ ∀ x H', (Itl K a').yld i H x H' → g x σ H' fun σ2 H2 => ts ⟨N, r, n, N⟩ σ2 H2) :=
  ⟨a, rfl, ⟨xs, h⟩, for_list (D := ⟨n, r, n, n⟩) Pv h0 hl hs hd⟩
theorem l_tup {n : St → Hp → Prop} {r : VK} (Pv : Nat → St → Hp → Prop) (h : SqT K H a xs) (h0 : Pv 0 σ H) (hl : ∀ i σ H, i ≤ xs.length → Pv i σ H → SqT K H a xs)
    (hs : ∀ i x σ H, xs[i]? = some x → Pv i σ H → g x σ H fun σ2 H2 => ts ⟨Pv (i + 1), r, n, Pv (i + 1)⟩ σ2 H2) (hd : ∀ σ H, Pv xs.length σ H → n σ H) :
    ∃ a', V.ref a = .ref a' ∧ (∃ xs, SqT K H a' xs) ∧ ∃ W : Nat → Nat → St → Hp → Prop, (∃ m, W 0 m σ H) ∧ ∀ i m σ H, W i m σ H →
      ((Itt K a').stop i H ∧ n σ H) ∨ ((Itt K a').go i H ∧ ∃ N : St → Hp → Prop, (∀ σ' H', N σ' H' → ∃ m', m' < m ∧ W (i + 1) m' σ' H') ∧ ∀ x H', (Itt K a').yld i H x H' → g x σ H' fun σ2 H2 => ts ⟨N, r, n, N⟩ σ2 H2) :=
  ⟨a, rfl, ⟨xs, h⟩, for_tup (D := ⟨n, r, n, n⟩) Pv h0 hl hs hd⟩
theorem g_lc (q : wi σ H fun J H1 => ∀ D, H1 D = none → ∃ W : Nat → Nat → Hp → Prop, (∃ m, W 0 m (upd H1 D (.lst []))) ∧ ∀ i m H, W i m H →
  (J.stop i H ∧ Q (.ref D) H) ∨ (J.go i H ∧ ∃ Nx : Hp → Prop, (∀ H', Nx H' → ∃ m', m' < m ∧ W (i + 1) m' H') ∧ ∀ x H', J.yld i H x H' → g x (wipe σ ns) H' fun σ2 H2 => wipe σ2 ns = wipe σ ns ∧ tt σ2 H2 fun b H3 =>
    if b = true then te σ2 H3 fun y H4 => ∃ acc, H4 D = some (.lst acc) ∧ acc.length < sizeLine ∧ Nx (upd H4 D (.lst (acc ++ [y]))) else Nx H3)) : tLc wi g tt te ns σ H Q := q
theorem g_sosc (q : wi σ H fun J H1 => ∀ (D : Addr) (so : List Int → HO), H1 D = none → ∃ W : Nat → Nat → List Int → Hp → Prop, (∃ m, W 0 m [] (upd H1 D (so []))) ∧ ∀ i m l H, W i m l H →
  (J.stop i H ∧ H D = some (so l) ∧ many l < 64 ∧ ∀ (out : List Int) (p : Addr), out.Pairwise (· < ·) → (∀ k : Int, k ∈ out ↔ k ∈ l) → H p = none → Q (.ref p) (upd H p (.lst (out.map V.int)))) ∨
  (J.go i H ∧ ∃ Nx : List Int → Hp → Prop, (∀ l' H', Nx l' H' → ∃ m', m' < m ∧ W (i + 1) m' l' H') ∧ ∀ x H', J.yld i H x H' → g x (wipe σ ns) H' fun σ2 H2 => wipe σ2 ns = wipe σ ns ∧ tt σ2 H2 fun b H3 =>
    if b = true then te σ2 H3 fun y H4 => ∃ c : Int, y = .int c ∧ H4 D = some (so l) ∧ many l < 1000 ∧ Nx (c :: l) (upd H4 D (so (c :: l))) else Nx l H3)) : tSoSc wi g tt te ns σ H Q := q
/-- sorted({.. for x in xs ..}), xs a list that stands still -/
theorem l_sosc (Pv : Addr → (List Int → HO) → Nat → List Int → Hp → Prop) (h : SqL K H a xs) (h0 : ∀ D so, H D = none → Pv D so 0 [] (upd H D (so []))) (hl : ∀ D so i l H', Pv D so i l H' → SqL K H' a xs)
    (hs : ∀ D so i x l H', xs[i]? = some x → Pv D so i l H' → g x (wipe σ ns) H' fun σ2 H2 => wipe σ2 ns = wipe σ ns ∧ tt σ2 H2 fun b H3 =>
      if b = true then te σ2 H3 fun y H4 => ∃ c : Int, y = .int c ∧ H4 D = some (so l) ∧ many l < 1000 ∧ Pv D so (i + 1) (c :: l) (upd H4 D (so (c :: l))) else Pv D so (i + 1) l H3)
    (hd : ∀ D so l H', Pv D so xs.length l H' → H' D = some (so l) ∧ many l < 64 ∧ ∀ (out : List Int) (p : Addr), out.Pairwise (· < ·) → (∀ k : Int, k ∈ out ↔ k ∈ l) → H' p = none → Q (.ref p) (upd H' p (.lst (out.map V.int)))) :
    ∃ a', V.ref a = .ref a' ∧ (∃ xs, SqL K H a' xs) ∧ ∀ (D : Addr) (so : List Int → HO), H D = none → ∃ W : Nat → Nat → List Int → Hp → Prop, (∃ m, W 0 m [] (upd H D (so []))) ∧ ∀ i m l H, W i m l H →
      ((Itl K a').stop i H ∧ H D = some (so l) ∧ many l < 64 ∧ ∀ (out : List Int) (p : Addr), out.Pairwise (· < ·) → (∀ k : Int, k ∈ out ↔ k ∈ l) → H p = none → Q (.ref p) (upd H p (.lst (out.map V.int)))) ∨
      ((Itl K a').go i H ∧ ∃ Nx : List Int → Hp → Prop, (∀ l' H', Nx l' H' → ∃ m', m' < m ∧ W (i + 1) m' l' H') ∧ ∀ x H', (Itl K a').yld i H x H' → g x (wipe σ ns) H' fun σ2 H2 => wipe σ2 ns = wipe σ ns ∧ tt σ2 H2 fun b H3 =>
        if b = true then te σ2 H3 fun y H4 => ∃ c : Int, y = .int c ∧ H4 D = some (so l) ∧ many l < 1000 ∧ Nx (c :: l) (upd H4 D (so (c :: l))) else Nx l H3) := by
  refine ⟨a, rfl, ⟨xs, h⟩, fun D so hD => ⟨fun i m l H' => m = xs.length - i ∧ i ≤ xs.length ∧ Pv D so i l H', ⟨xs.length, by simp, Nat.zero_le _, h0 D so hD⟩, ?_⟩⟩
  rintro i m l H1 ⟨rfl, hi, p⟩
  have q := hl D so i l H1 p
  by_cases hlt : i < xs.length
  · refine .inr ⟨⟨xs, xs[i], q, by simp [hlt]⟩, Pv D so (i + 1), fun l' H' p' => ⟨xs.length - (i + 1), by omega, rfl, hlt, p'⟩, ?_⟩
    rintro x H' ⟨rfl, y⟩
    exact hs D so i x l _ (y xs q) p
  · obtain rfl : i = xs.length := by omega
    exact .inl ⟨⟨xs, q, Nat.le_refl _⟩, hd D so l H1 p⟩
end
/-! Own work: nested data (lists, tuples of whole numbers, texts, None) as it is compared; isinstance. -/
open PySem PySem.Spec L2
/-- can be compared: texts in bounds, at most n deep -/
def Fine (n : Nat) (d : PyData) : Prop := d.canLay0 = true ∧ d.depth ≤ n
theorem Fine.shaped {d : PyData} {n : Nat} (h : Fine n d) (hn : n ≤ 64 := by decide) : SeqAt.shaped d = true := by
  unfold SeqAt.shaped
  rw [h.1, decide_eq_true (Nat.le_trans h.2 hn)]
  rfl
theorem Fine.up {d : PyData} {n m : Nat} (h : Fine n d) (hn : n ≤ m) : Fine m d := ⟨h.1, Nat.le_trans h.2 hn⟩
theorem fine_none : Fine 0 .none := ⟨rfl, Nat.le_refl _⟩
theorem fine_bool (b : Bool) : Fine 0 (.bool b) := ⟨rfl, Nat.le_refl _⟩
theorem fine_int (i : Int) : Fine 0 (.int i) := ⟨rfl, Nat.le_refl _⟩
theorem fine_str {x : Str} (h : (PyData.str x).canLay0 = true) : Fine 0 (.str x) := ⟨h, Nat.le_refl _⟩
theorem canLayAll_of : ∀ {ds : List PyData}, (∀ d ∈ ds, d.canLay0 = true) → PyData.canLayAll0 ds = true
  | [], _ => rfl
  | d :: ds, h => by
    show (d.canLay0 && PyData.canLayAll0 ds) = true
    rw [h d (by simp), canLayAll_of fun x hx => h x (by simp [hx])]
    rfl
theorem depthAll_of : ∀ {ds : List PyData} {n : Nat}, (∀ d ∈ ds, d.depth ≤ n) → PyData.depthAll ds ≤ n
  | [], _, _ => Nat.zero_le _
  | d :: ds, n, h => by
    show max d.depth (PyData.depthAll ds) ≤ n
    exact Nat.max_le.mpr ⟨h d (by simp), depthAll_of fun x hx => h x (by simp [hx])⟩
theorem fine_list {ds : List PyData} {n : Nat} (h : ∀ d ∈ ds, Fine n d) : Fine (n + 1) (.list ds) :=
  ⟨canLayAll_of fun d hd => (h d hd).1, Nat.succ_le_succ (depthAll_of fun d hd => (h d hd).2)⟩
theorem fine_tup {ds : List PyData} {n : Nat} (h : ∀ d ∈ ds, Fine n d) : Fine (n + 1) (.tuple ds) :=
  ⟨canLayAll_of fun d hd => (h d hd).1, Nat.succ_le_succ (depthAll_of fun d hd => (h d hd).2)⟩
section
variable {K : Frag} {H H' : Hp} {Q : VK} {x y : V} {d e : PyData} {p q a b : Addr} {xs ys : List V} {i j : Int}
theorem eqv_self {n : Nat} (h : Fine n d) : PyData.eqv d d = true := SeqAt.eqv_refl d h.1
theorem g_eqD {n : Nat} (hx : Dp K H x d) (hy : Dp K H y d) (f : Fine n d) (q : Q (.bl true) H) (hn : n ≤ 64 := by decide) : rEqD K x y H Q := ⟨d, d, hx, hy, f.shaped hn, f.shaped hn, by rw [eqv_self f]; exact q⟩
theorem g_neD {n : Nat} (hx : Dp K H x d) (hy : Dp K H y d) (f : Fine n d) (q : Q (.bl false) H) (hn : n ≤ 64 := by decide) : rNeD K x y H Q := ⟨d, d, hx, hy, f.shaped hn, f.shaped hn, by rw [eqv_self f]; exact q⟩
theorem dpAll_of {ds : List PyData} (hl : xs.length = ds.length) (h : ∀ (i : Nat) v d, xs[i]? = some v → ds[i]? = some d → Dp K H v d) : DpAll K H xs ds := by
  induction xs generalizing ds with
  | nil =>
    cases ds with
    | nil => exact .nil
    | cons d ds => cases hl
  | cons v vs ih =>
    cases ds with
    | nil => cases hl
    | cons d ds => exact .cons (h 0 v d rfl rfl) (ih (by simpa using hl) fun i v d e1 e2 => h (i + 1) v d (by simpa using e1) (by simpa using e2))
theorem dpAll_ints : ∀ ns : List Int, DpAll K H (ns.map V.int) (ns.map PyData.int)
  | [] => .nil
  | n :: ns => .cons (.int n) (dpAll_ints ns)
theorem dp_ints {ns : List Int} (h : SqL K H p (ns.map V.int)) : Dp K H (.ref p) (.list (ns.map PyData.int)) := .lst h (dpAll_ints ns)
theorem fine_ints (ns : List Int) : Fine 1 (.list (ns.map PyData.int)) := fine_list fun d hd => by
  obtain ⟨n, _, rfl⟩ := List.mem_map.mp hd
  exact fine_int n
theorem fine_intsT (ns : List Int) : Fine 1 (.tuple (ns.map PyData.int)) := fine_tup fun d hd => by
  obtain ⟨n, _, rfl⟩ := List.mem_map.mp hd
  exact fine_int n
/-! ### isinstance -/
theorem g_isi {t u : Value} {c : V} {r : Bool} (hc : ClsV c u) (ht : TyX K H x t) (hk : PySem.W.kitOne K t u = some r) (q : Q (.bl r) H) : rIsi K [x, c] H Q := ⟨x, c, t, u, r, rfl, hc, ht, hk, q⟩
theorem g_isInt (q : Q (.bl true) H) : rIsi K [.int i, .ty "int"] H Q := g_isi (.ty _) (.base (.int i)) (kit_ty (by decide +kernel)) q
theorem g_isIntB (q : Q (.bl false) H) : rIsi K [.int i, .ty "bool"] H Q := g_isi (.ty _) (.base (.int i)) (kit_ty (by decide +kernel)) q
theorem g_isBl {b : Bool} (q : Q (.bl true) H) : rIsi K [.bl b, .ty "bool"] H Q := g_isi (.ty _) (.base (.bl b)) (kit_ty (by decide +kernel)) q
theorem g_isBlI {b : Bool} (q : Q (.bl true) H) : rIsi K [.bl b, .ty "int"] H Q := g_isi (.ty _) (.base (.bl b)) (kit_ty (by decide +kernel)) q
theorem g_isNonI (q : Q (.bl false) H) : rIsi K [.non, .ty "int"] H Q := g_isi (.ty _) (.base .non) (kit_ty (by decide +kernel)) q
theorem g_isLst (h : H p = some (.lst xs)) (q : Q (.bl true) H) : rIsi K [.ref p, .ty "list"] H Q := g_isi (.ty _) (.base (.lst h)) (kit_ty (by decide +kernel)) q
theorem g_isTup (h : H p = some (.tup xs)) (q : Q (.bl true) H) : rIsi K [.ref p, .ty "tuple"] H Q := g_isi (.ty _) (.base (.tup h)) (kit_ty (by decide +kernel)) q
theorem g_isDict {kvs : List (Key × V)} (h : H p = some (.dK kvs)) (q : Q (.bl true) H) : rIsi K [.ref p, .ty "dict"] H Q := g_isi (.ty _) (.base (.dK h)) (kit_ty (by decide +kernel)) q
theorem g_isStr {z : Str} (q : Q (.bl true) H) : rIsi K [.str z, .ty "str"] H Q := g_isi (.ty _) (.base (.str z)) (kit_ty (by decide +kernel)) q
/-! ### is None, by what is known -/
theorem g_isN {r : Bool} (e : decide (x = .non) = r) (q : Q (.bl r) H) : rIsN x .non H Q := ⟨rfl, by rw [e]; exact q⟩
theorem g_notN {r : Bool} (e : (!decide (x = .non)) = r) (q : Q (.bl r) H) : rNotN x .non H Q := ⟨rfl, by rw [e]; exact q⟩
end
/-! Own work: membership of whole numbers, sorted lists, texts, caught errors. -/
open PySem PySem.Spec L2
section
variable {K : Frag} {H H' : Hp} {Q : VK} {x y : V} {d e : PyData} {p q a b : Addr} {xs ys : List V} {i j : Int}
theorem g_itNT {A B : Prop} (q : B) : if (!true) = true then A else B := q
theorem g_itNF {A B : Prop} (q : A) : if (!false) = true then A else B := q
theorem flat_ints (ns : List Int) : (ns.map V.int).all flatV = true := by
  rw [List.all_eq_true]
  intro v hv
  obtain ⟨n, _, rfl⟩ := List.mem_map.mp hv
  rfl
theorem flat_strs (ns : List Str) : (ns.map V.str).all flatV = true := by
  rw [List.all_eq_true]
  intro v hv
  obtain ⟨n, _, rfl⟩ := List.mem_map.mp hv
  rfl
theorem inV_ints (i : Int) : ∀ ns : List Int, inV (.int i) (ns.map V.int) = decide (i ∈ ns)
  | [] => by simp [inV]
  | n :: ns => by
    have h := inV_ints i ns
    unfold inV at h ⊢
    rw [List.map_cons, List.any_cons, h]
    show (n == i || decide (i ∈ ns)) = _
    by_cases c : n = i
    · subst c; simp
    · have : (n == i) = false := by simpa using c
      rw [this, Bool.false_or]
      simp only [List.mem_cons]
      congr 1
      simp only [eq_comm (a := i), c, false_or]
theorem inV_strs (i : Str) : ∀ ns : List Str, inV (.str i) (ns.map V.str) = decide (i ∈ ns)
  | [] => by simp [inV]
  | n :: ns => by
    have h := inV_strs i ns
    unfold inV at h ⊢
    rw [List.map_cons, List.any_cons, h]
    show (n == i || decide (i ∈ ns)) = _
    by_cases c : n = i
    · subst c; simp
    · have : (n == i) = false := by simpa using c
      rw [this, Bool.false_or]
      simp only [List.mem_cons]
      congr 1
      simp only [eq_comm (a := i), c, false_or]
theorem g_inI {ns : List Int} (h : SqL K H p (ns.map V.int)) (q : Q (.bl (decide (i ∈ ns))) H) : rIn K false (.int i) (.ref p) H Q :=
  ⟨p, _, rfl, .inl h, rfl, flat_ints ns, by rw [inV_ints]; exact q⟩
theorem g_notInI {ns : List Int} (h : SqL K H p (ns.map V.int)) (q : Q (.bl (!decide (i ∈ ns))) H) : rIn K true (.int i) (.ref p) H Q :=
  ⟨p, _, rfl, .inl h, rfl, flat_ints ns, by rw [inV_ints]; exact q⟩
theorem g_inIT {ns : List Int} (h : SqT K H p (ns.map V.int)) (q : Q (.bl (decide (i ∈ ns))) H) : rIn K false (.int i) (.ref p) H Q :=
  ⟨p, _, rfl, .inr h, rfl, flat_ints ns, by rw [inV_ints]; exact q⟩
theorem g_notInIT {ns : List Int} (h : SqT K H p (ns.map V.int)) (q : Q (.bl (!decide (i ∈ ns))) H) : rIn K true (.int i) (.ref p) H Q :=
  ⟨p, _, rfl, .inr h, rfl, flat_ints ns, by rw [inV_ints]; exact q⟩
theorem g_inS {s : Str} {ns : List Str} (h : SqL K H p (ns.map V.str)) (q : Q (.bl (decide (s ∈ ns))) H) : rIn K false (.str s) (.ref p) H Q :=
  ⟨p, _, rfl, .inl h, rfl, flat_strs ns, by rw [inV_strs]; exact q⟩
theorem g_notInS {s : Str} {ns : List Str} (h : SqL K H p (ns.map V.str)) (q : Q (.bl (!decide (s ∈ ns))) H) : rIn K true (.str s) (.ref p) H Q :=
  ⟨p, _, rfl, .inl h, rfl, flat_strs ns, by rw [inV_strs]; exact q⟩
/-- sorted lists of whole numbers -/
theorem sorted_of {ns ns' : List Int} (pm : ns'.Perm ns) (le : ns'.Pairwise (· ≤ ·)) (nd : ns.Nodup) : ns'.Pairwise (· < ·) := by
  have nd' : ns'.Nodup := pm.nodup_iff.mpr nd
  exact (List.pairwise_and_iff.mpr ⟨le, nd'⟩).imp fun {a b} h => by
    have h1 := h.1
    have h2 : a ≠ b := h.2
    omega
theorem sorted_eq : ∀ {xs ys : List Int}, xs.Pairwise (· < ·) → ys.Pairwise (· < ·) → (∀ k, k ∈ xs ↔ k ∈ ys) → xs = ys
  | [], [], _, _, _ => rfl
  | [], y :: ys, _, _, h => by have := (h y).mpr (by simp); cases this
  | x :: xs, [], _, _, h => by have := (h x).mp (by simp); cases this
  | x :: xs, y :: ys, hx, hy, h => by
    have hx' := List.pairwise_cons.mp hx
    have hy' := List.pairwise_cons.mp hy
    have e : x = y := by
      have h1 := (h x).mp (by simp)
      have h2 := (h y).mpr (by simp)
      rcases List.mem_cons.mp h1 with e | h1
      · exact e
      · rcases List.mem_cons.mp h2 with e | h2
        · exact e.symm
        · have a1 := hx'.1 y h2
          have a2 := hy'.1 x h1
          omega
    subst e
    rw [sorted_eq hx'.2 hy'.2 fun k => ?_]
    have hk := h k
    simp only [List.mem_cons] at hk
    constructor
    · intro m
      rcases hk.mp (.inr m) with e | m'
      · subst e
        have := hx'.1 k m
        omega
      · exact m'
    · intro m
      rcases hk.mpr (.inr m) with e | m'
      · subst e
        have := hy'.1 k m
        omega
      · exact m'
theorem nodup_len : ∀ {xs ys : List Int}, xs.Nodup → (∀ k ∈ xs, k ∈ ys) → xs.length ≤ ys.length
  | [], _, _, _ => Nat.zero_le _
  | x :: xs, ys, nd, h => by
    have nd' := List.nodup_cons.mp nd
    have hx : x ∈ ys := h x (by simp)
    have := nodup_len (xs := xs) (ys := ys.erase x) nd'.2 fun k hk => (List.mem_erase_of_ne (show k ≠ x from fun e => by subst e; exact nd'.1 hk)).mpr (h k (by simp [hk]))
    rw [List.length_erase_of_mem hx] at this
    have := List.length_pos_of_mem hx
    rw [List.length_cons]
    omega
theorem sorted_nodup {xs : List Int} (h : xs.Pairwise (· < ·)) : xs.Nodup := h.imp fun {a b} (l : a < b) (e : a = b) => by omega
theorem g_sortedI {ns : List Int} (h : SqL K H a (ns.map V.int)) (q : ∀ (ns' : List Int) (p : Addr), ns'.Perm ns → ns'.Pairwise (· ≤ ·) → H p = none → Q (.ref p) (upd H p (.lst (ns'.map V.int)))) : rSortedI K [.ref a] H Q := ⟨a, ns, rfl, h, q⟩
theorem g_addSt {s t : Str} (h : s.length + t.length ≤ 1000000) (q : Q (.str (s ++ t)) H) : rAddSt (.str s) (.str t) H Q := ⟨s, t, rfl, rfl, Nat.le_trans h (by decide), q⟩
/-- an item that has what all have -/
theorem g_ixP (P : V → Prop) (h : SqL K H p xs) (al : ∀ v ∈ xs, P v) (h0 : 0 ≤ i) (h1 : i < (xs.length : Int)) (q : ∀ v, P v → Q v H) : rIxL K (.ref p) (.int i) H Q := by
  obtain ⟨n, rfl⟩ : ∃ n : Nat, i = n := ⟨i.toNat, by omega⟩
  have hn : n < xs.length := by omega
  exact ⟨p, xs, _, xs[n], rfl, rfl, h, atI_nat (List.getElem?_eq_getElem hn), q _ (al _ (List.getElem_mem hn))⟩
/-! ### caught errors -/
variable {σ : St} {D : Ends} {cls c : Value} {n : Nat} {ts : Addr → Value → Option Addr → TS} {W : WX} {dd : Option Addr}
theorem g_try {tb : WX → TS} (q : tb (wAs K c n ts W D) D σ H) : tTryAs K c n ts W tb D σ H := q
theorem g_caught (e : PySem.W.exmOne K cls c = some true) (q : ∀ a, H a = none → ts a cls dd { nx := fun σ' H' => D.nx (σ'.set n none) H', rt := D.rt, bk := fun σ' H' => D.bk (σ'.set n none) H', ct := fun σ' H' => D.ct (σ'.set n none) H' } (σ.set n (some (.ref a))) H) : wAs K c n ts W D cls dd σ H :=
  ⟨true, e, fun _ a ha => q a ha, fun z => by cases z⟩
theorem g_isX {C : Addr} {D : Addr} {r : Bool} (hE : ExcC K D) (hk : PySem.W.kitOne K (.ref D) (.ref C) = some r) (q : Q (.bl r) H) : rIsX K a (.ref D) none [.ref a, .ref C] H Q :=
  ⟨D, rfl, rfl, hE, .ref C, .ref C, r, rfl, fun u r => by cases r; rfl, hk, q⟩
end
/-! Own work: what the proofs ask of the state behind the top, as one list of Bools and one list of defs (each at an address that is reckoned from K), read by a Hook. -/
open PySem PySem.Spec L2
/-- where a def stands: a module's name; a method; the getter of a property -/
inductive Pl where
  | fn (x : Str) | me (C m : Str) | pr (C m : Str)
def prA (K : Frag) (C m : Str) : Addr := match PySem.W.recIn K (He.ma K (He.ga K C) m) "property" with
  | some (.ref g :: _) => g
  | _ => 0
def Pl.ad (K : Frag) : Pl → Addr
  | .fn x => He.ga K x
  | .me C m => He.ma K (He.ga K C) m
  | .pr C m => prA K C m
structure Df where
  pl : Pl
  name : Str
  qual : Str
  st : Stmt
  dfl : List He.Dv := []
  kwd : List (Str × He.Dv) := []
def wat (K : Frag) (p : Pl) : He.FnW := match K.lookup (p.ad K) with
  | some ⟨_, _, .func d, _⟩ => some (d.name, d.qualname, d.params, d.body, d.scope, d.globals, d.closure, d.builtins)
  | _ => none
def Df.val (d : Df) : He.FnW := some (d.name, d.qual, defArgs d.st, .stmts (defBody d.st), defScope d.st, mainGlobals, [], builtinsNs)
def Df.dvs (K : Frag) (d : Df) : List V := d.dfl.map (He.Dv.v K)
def Df.kws (K : Frag) (d : Df) : List (Str × V) := d.kwd.map fun q => (q.1, q.2.v K)
def Df.ok (K : Frag) (d : Df) : Bool := PySem.W.keepIn K (.ref (d.pl.ad K)) && (match K.lookup (d.pl.ad K) with
  | some ⟨_, _, .func f, _⟩ => PySem.W.codeIn K f.code d.qual && (He.dflB K f.defaults (d.dvs K) && He.kwdB K f.kwdefaults (d.kws K))
  | _ => false)
abbrev FunS (K : Frag) (d : Df) (fd : FuncData) : Prop := FunD K d.name d.qual (defArgs d.st) (defBody d.st) (defScope d.st) (d.dvs K) (d.kws K) (d.pl.ad K) fd
theorem Df.funS {K : Frag} {d : Df} (e : wat K d.pl = d.val) (c : d.ok K = true) : ∃ fd, FunS K d fd := by
  obtain ⟨kp, c⟩ := He.ba c
  unfold wat at e
  split at e
  · rename_i oc od f osl q
    rw [q] at c
    obtain ⟨k1, c⟩ := He.ba c
    obtain ⟨k2, k3⟩ := He.ba c
    obtain ⟨a1, a2, a3, a4, a5, a6, a7, a8, a9, a10, a11, a12, a13, a14, a15⟩ := f
    simp only [Df.val, Option.some.injEq, Prod.mk.injEq] at e
    obtain ⟨h1, h2, h3, h4, h5, h6, h7, h8⟩ := e
    subst h1 h2 h3 h4 h5 h6 h7 h8
    exact ⟨_, ⟨oc, od, a8, a9, a10, a11, a12, a13, a14, osl, rfl, q, k1, He.dflB_ok k2, He.kwdB_ok k3⟩, kp⟩
  · cases e
/-! ### the Hook -/
abbrev Ck := Frag → List Bool
def obsS (ck : Ck) (fn : List Df) (K : Frag) : He.AlD := ((ck K).all (fun b => b) && fn.all fun d => d.ok K, fn.map fun d => wat K d.pl)
def valS (fn : List Df) : He.AlD := (true, fn.map Df.val)
def SaysS (ck : Ck) (fn : List Df) (K : Frag) : Prop := obsS ck fn K = valS fn
def obsSG (n : Nat) (ck : Ck) (fn : List Df) (g : Addr → Option Obj) : He.AlD := obsS ck fn (He.frG g (He.asD g n))
def hookS (n : Nat) (ck : Ck) (fn : List Df) : PySem.W.Hook where
  α := He.AlD
  obs := fun s => obsSG n ck fn s.heap.get?
  val := fun _ => valS fn
  says := fun _ h => ∃ K : Frag, K.In h ∧ SaysS ck fn K
  of := fun _ _ e => ⟨_, He.frG_in, e⟩
  keeps := fun _ _ _ ⟨K, hK, c⟩ k => ⟨K, PySem.W.Frag.In.keeps hK k, c⟩
theorem obsSG_eq {n : Nat} {ck : Ck} {fn : List Df} {g : Addr → Option Obj} {s : Shared} (h : ∀ a, g a = s.heap.get? a) : obsSG n ck fn g = (hookS n ck fn).obs s := by
  have e : g = s.heap.get? := funext h
  rw [e]
  rfl
/-- what is read off the head -/
structure Tx (ck : Ck) (fn : List Df) (K : Frag) (mg : Str → Option Value) : Prop where
  says : SaysS ck fn K
  at_ : ∃ h : Heap, K.In h ∧ h.Ns mainGlobals mg
section
variable {ck : Ck} {fn : List Df} {K : Frag} {mg : Str → Option Value}
theorem Tx.bit (T : Tx ck fn K mg) (i : Nat) {b : Bool} (h : (ck K)[i]? = some b := by rfl) : b = true := by
  have c := (He.ba (show ((ck K).all (fun b => b) && fn.all fun d => d.ok K) = true from congrArg (fun z : He.AlD => z.1) T.says)).1
  exact List.all_eq_true.mp c b (List.mem_of_getElem? h)
theorem Tx.df (T : Tx ck fn K mg) (i : Nat) {d : Df} (h : fn[i]? = some d := by rfl) : ∃ fd, FunS K d fd := by
  have c := (He.ba (show ((ck K).all (fun b => b) && fn.all fun d => d.ok K) = true from congrArg (fun z : He.AlD => z.1) T.says)).2
  have e : fn.map (fun d => wat K d.pl) = fn.map Df.val := congrArg (fun z : He.AlD => z.2) T.says
  have e2 : (fn.map fun d => wat K d.pl)[i]? = (fn.map Df.val)[i]? := by rw [e]
  rw [List.getElem?_map, List.getElem?_map, h] at e2
  exact Df.funS (Option.some.inj e2) (List.all_eq_true.mp c d (List.mem_of_getElem? h))
theorem Tx.free (T : Tx ck fn K mg) {x : Str} (c : (He.Fa.free x).ok K = true) : mg x = none := by
  obtain ⟨h, X, G⟩ := T.at_
  exact He.free_ok X G c
theorem Tx.glo (T : Tx ck fn K mg) {x : Str} (c : (He.Fa.glo x).ok K = true) : mg x = some (.ref (He.ga K x)) := by
  obtain ⟨h, X, G⟩ := T.at_
  exact He.glo_ok X G c
theorem Tx.int (T : Tx ck fn K mg) {x : Str} {i : Int} (c : (He.Fa.int x i).ok K = true) : ∃ t, mg x = some (.int i t) := by
  obtain ⟨h, X, G⟩ := T.at_
  exact He.int_ok X G c
theorem Tx.str (T : Tx ck fn K mg) {x z : Str} (c : (He.Fa.str x z).ok K = true) : ∃ t, mg x = some (.str z t) := by
  obtain ⟨h, X, G⟩ := T.at_
  exact He.str_ok X G c
end
/-! ### further facts -/
def propB (K : Frag) (C f : Str) : Bool := He.eqO (PySem.W.findIn K (.ref (He.ga K C)) f) (some (some (.ref (He.ma K (He.ga K C) f)))) &&
  (He.eqO (PySem.W.specialIn K (.ref (He.ma K (He.ga K C) f)) "__get__") (some (some (.builtin "property.__get__"))) &&
  (decide (PySem.W.takesIn K (.ref (He.ma K (He.ga K C) f)) = some true) && (match PySem.W.recIn K (He.ma K (He.ga K C) f) "property" with
  | some (.ref g :: _) => decide (g = prA K C f)
  | _ => false)))
theorem propB_ok {K : Frag} {C f : Str} (h : propB K C f = true) : PropOf K (He.ga K C) f (He.ma K (He.ga K C) f) (prA K C f) := by
  obtain ⟨h1, h⟩ := He.ba h
  obtain ⟨h2, h⟩ := He.ba h
  obtain ⟨h3, h4⟩ := He.ba h
  refine ⟨He.eqO_ok h1, He.eqO_ok h2, of_decide_eq_true h3, ?_⟩
  split at h4
  · rename_i g r q
    rw [← (show g = prA K C f from of_decide_eq_true h4)]
    exact ⟨r, q⟩
  · cases h4
def excB (K : Frag) (D : Str) : Bool := He.eqO (PySem.W.findIn K (.ref (He.ga K D)) "__getattribute__") (some (some (.builtin "BaseException.__getattribute__"))) &&
  (He.eqO (PySem.W.findIn K (.ref (He.ga K D)) "__getattr__") (some none) && (decide (PySem.W.subIn K (.ref (He.ga K D)) (.type "BaseException") = some true) && (PySem.W.hasDictIn K (He.ga K D) &&
  (He.eqO (PySem.W.findIn K (.ref (He.ga K D)) "__class__") (some (some (.builtin "object.__class__"))) && (He.eqO (PySem.W.specialIn K (.builtin "object.__class__") "__get__") (some (some (.builtin "getset_descriptor.__get__"))) &&
  (decide (PySem.W.takesIn K (.builtin "object.__class__") = some true) && decide (PySem.W.mroIn K (He.ga K D) (.type "object") = some true)))))))
theorem excB_ok {K : Frag} {D : Str} (h : excB K D = true) : ExcC K (He.ga K D) := by
  obtain ⟨h1, h⟩ := He.ba h
  obtain ⟨h2, h⟩ := He.ba h
  obtain ⟨h3, h⟩ := He.ba h
  obtain ⟨h4, h⟩ := He.ba h
  obtain ⟨h5, h⟩ := He.ba h
  obtain ⟨h6, h⟩ := He.ba h
  obtain ⟨h7, h8⟩ := He.ba h
  exact ⟨He.eqO_ok h1, He.eqO_ok h2, of_decide_eq_true h3, h4, He.eqO_ok h5, He.eqO_ok h6, of_decide_eq_true h7, of_decide_eq_true h8⟩
def kitB2 (K : Frag) (D C : Str) (b : Bool) : Bool := decide (PySem.W.kitOne K (.ref (He.ga K D)) (.ref (He.ga K C)) = some b)
theorem kitB2_ok {K : Frag} {D C : Str} {b : Bool} (h : kitB2 K D C b = true) : PySem.W.kitOne K (.ref (He.ga K D)) (.ref (He.ga K C)) = some b := of_decide_eq_true h
def kitTy (K : Frag) (D : Str) (C : String) (b : Bool) : Bool := decide (PySem.W.kitOne K (.ref (He.ga K D)) (.type C) = some b)
theorem kitTy_ok {K : Frag} {D : Str} {C : String} {b : Bool} (h : kitTy K D C b = true) : PySem.W.kitOne K (.ref (He.ga K D)) (.type C) = some b := of_decide_eq_true h
theorem tk_intro {X : Cx} {body : List Stmt} {t : TS} {E : XK} (tk : Takes X (WD E)) (h : Takes X (WD E) → PSs X body t) : PSs X body t := h tk
/-- a promise under which nothing is let out -/
theorem FnOk.e0 {P : Program} {w : World} {K : Frag} {mg : Str → Option Value} {base : Heap} {k : Nat} {f : Addr} {ps : List Str} {sp : Sp} {fd : FuncData} (F : FnOk P w K mg base (L2.CX P w) k f fd ps sp) : FnOk P w K mg base CX0 k f fd ps (fun vs H Q _ => sp vs H Q E0) :=
  ⟨fun vs H Q _ h => F.len vs H Q E0 h, fun A outer s H args us vs Q E hr he hb hv h => codeAny_mono (F.run A outer s H args us vs Q E0 hr he hb hv h) (by
    rintro (e | fl) s' q
    · obtain ⟨_, _, _, _, _, _, _, _, _, _, _, _, z⟩ := q
      exact z.elim
    · cases fl with
      | ret u => exact q
      | next => exact q
      | brk => exact q
      | cont => exact q)⟩
/-- what a def's callers take, from its own -/
theorem Gm.of {P : Program} {w : World} {K : Frag} {mg : Str → Option Value} {base : Heap} {k : Nat} {f : Addr} {ps : List Str} {sp : Sp} {fd : FuncData} (ok : FnOk P w K mg base (L2.CX P w) k f fd ps sp) (b : Binds K fd ps []) : Gm P w K mg base k f ps [] sp :=
  ⟨fd, [], ok, b, .nil⟩
theorem Gf.of {P : Program} {w : World} {K : Frag} {mg : Str → Option Value} {base : Heap} {k : Nat} {x : Str} {ps : List Str} {sp : Sp} {fd : FuncData} (ok : FnOk P w K mg base (L2.CX P w) k (He.ga K x) fd ps sp) (b : Binds K fd ps [])
    (hm : mg x = some (.ref (He.ga K x))) (hk : PySem.W.keepIn K (.ref (He.ga K x)) = true) : Gf P w K mg base k x ps [] sp := ⟨⟨fd, [], ok, b, .nil⟩, hm, hk⟩
local macro_rules | `(tactic| walk_at "nm") => `(tactic| first
  | exact List.not_mem_nil
  | exact nm1 (by walk_at "ne")
  | exact nm2 (by walk_at "ne") (by walk_at "ne")
  | exact nm3 (by walk_at "ne") (by walk_at "ne") (by walk_at "ne")
  | exact nm4 (by walk_at "ne") (by walk_at "ne") (by walk_at "ne") (by walk_at "ne"))
local macro_rules | `(tactic| walk_at "fr") => `(tactic| first
  | assumption
  | exact fr1 (by assumption)
  | exact fr2 (by assumption)
  | exact fr3 (by assumption)
  | exact fr4 (by assumption)
  | exact fr5 (by assumption)
  | exact fr6 (by assumption)
  | exact fr7 (by assumption)
  | exact fr8 (by assumption)
  | exact fr9 (by assumption)
  | exact fr10 (by assumption)
  | exact fr11 (by assumption)
  | exact fr12 (by assumption))
local macro_rules | `(tactic| walk_at "ne0") => `(tactic| first
  | assumption
  | exact ne_of_none (by assumption) (by assumption)
  | exact nu1 (by assumption)
  | exact nu2 (by assumption)
  | exact nu3 (by assumption)
  | exact nu4 (by assumption)
  | exact nu5 (by assumption)
  | exact nu6 (by assumption)
  | exact nu7 (by assumption)
  | exact nu8 (by assumption)
  | exact nu9 (by assumption)
  | exact nu10 (by assumption)
  | exact nu11 (by assumption)
  | exact nu12 (by assumption)
  | exact ne_fresh2 (by assumption) (by walk_at "fr"))
local macro_rules | `(tactic| walk_at "ne") => `(tactic| first
  | walk_at "ne0"
  | exact Ne.symm (by walk_at "ne0")
  | exact ne_of (by assumption) (by assumption) (by intro z; cases z))
local macro_rules | `(tactic| walk_at "hp") => `(tactic| first
  | assumption
  | exact upd_same
  | exact at_upd (by walk_at "ne") (by walk_at "hp"))
local macro_rules | `(tactic| walk_at "frs") => `(tactic| first
  | exact noseq_new (by walk_at "fr")
  | exact noseq_ins (by walk_at "hp")
  | exact noseq_dk (by walk_at "hp")
  | exact noseq_dt (by walk_at "hp"))
local macro_rules | `(tactic| walk_at "sq") => `(tactic| first
  | assumption
  | exact SqL.of (by walk_at "hp")
  | exact Same.seq (by assumption) (by assumption)
  | exact seqL_upd (by walk_at "frs") (by walk_at "sq")
  | exact Keep.seqL (by assumption) (by walk_at "sq") (by walk_at "nm"))
local macro_rules | `(tactic| walk_at "st") => `(tactic| first
  | assumption
  | exact SqT.of (by walk_at "hp")
  | exact seqT_upd (by walk_at "frs") (by walk_at "st")
  | exact Keep.seqT (by assumption) (by walk_at "st") (by walk_at "nm"))
local macro_rules | `(tactic| walk_at "side") => `(tactic| first | decide | omega | (refine ⟨?_, ?_⟩ <;> omega))
local macro_rules | `(tactic| walk_at "go1") => `(tactic| first
  | with_reducible refine g_seq ?_
  | with_reducible refine g_asg ?_
  | with_reducible refine g_name ?_
  | with_reducible refine g_op ?_
  | ((with_reducible refine hd_var ?_); refine g_var rfl ?_)
  | with_reducible refine g_c ?_
  | with_reducible refine g_I0 ?_
  | with_reducible refine g_ifS ?_
  | with_reducible refine g_test ?_
  | with_reducible refine g_bl ?_
  | with_reducible refine g_itT ?_
  | with_reducible refine g_itF ?_
  | with_reducible refine g_itNT ?_
  | with_reducible refine g_itNF ?_
  | with_reducible refine g_nx ?_
  | with_reducible refine g_ret ?_
  | with_reducible refine g_cb ?_
  | with_reducible refine g_cons ?_
  | with_reducible refine g_nil ?_
  | with_reducible refine g_call ?_
  | with_reducible refine g_eqI ?_
  | with_reducible refine g_neI ?_
  | with_reducible refine g_eqS ?_
  | with_reducible refine g_neS ?_
  | with_reducible refine g_eqB ?_
  | with_reducible refine g_neB ?_
  | with_reducible refine g_isN0 ?_
  | with_reducible refine g_isNi ?_
  | with_reducible refine g_isNr ?_
  | with_reducible refine g_notN0 ?_
  | with_reducible refine g_notNi ?_
  | with_reducible refine g_notNr ?_
  | with_reducible refine g_B ?_
  | with_reducible refine g_and ?_
  | with_reducible refine g_or ?_
  | with_reducible refine g_not ?_
  | with_reducible refine g_andV ?_
  | with_reducible refine g_orV ?_
  | with_reducible refine g_notV ?_
  | with_reducible refine g_if ?_
  | with_reducible refine g_intI ?_
  | with_reducible refine g_intB ?_
  | with_reducible refine g_max ?_
  | with_reducible refine g_min ?_
  | with_reducible refine g_un ?_
  | with_reducible refine g_U ?_
  | with_reducible refine g_drop ?_
  | with_reducible refine g_retN ?_
  | with_reducible refine g_ct ?_
  | with_reducible refine g_brk ?_
  | with_reducible refine g_raise ?_
  | with_reducible refine g_tup ?_
  | with_reducible refine g_lst ?_
  | with_reducible refine g_meth ?_
  | with_reducible refine g_for ?_
  | with_reducible refine g_iR1 ?_
  | with_reducible refine g_iR2 ?_
  | with_reducible refine g_iL ?_
  | with_reducible refine g_iT ?_
  | with_reducible refine g_lc ?_
  | with_reducible refine g_sosc ?_
  | with_reducible refine g_make ?_
  | ((with_reducible refine hd_mul ?_); first | refine g_mulR (by walk_at "side") ?_ | refine g_mulL (by walk_at "side") ?_)
  | ((with_reducible refine hd_div ?_); refine g_div (by walk_at "side") ?_)
  | ((with_reducible refine hd_mod ?_); refine g_mod (by walk_at "side") ?_)
  | ((with_reducible refine hd_pow ?_); refine g_pow (by walk_at "side") ?_)
  | ((with_reducible refine hd_fld ?_); refine g_fld ?_)
  | ((with_reducible refine hd_fldv ?_); refine g_fldv (by walk_at "hp") (by rfl) ?_)
  | ((with_reducible refine hd_methv ?_); refine g_methv (by walk_at "hp") (by rfl) ?_)
  | ((with_reducible refine hd_lenQ ?_); first | refine g_lenL (by walk_at "sq") ?_ | refine g_lenT (by walk_at "st") ?_)
  | ((with_reducible refine hd_aug ?_); refine g_aug rfl ?_)
  | with_reducible refine g_ipI ?_
  | with_reducible refine g_sub ?_
  | ((with_reducible refine hd_sfld ?_); refine g_sfld ?_)
  | ((with_reducible refine hd_sfldv ?_); refine g_sfldv (by walk_at "hp") (by walk_at "few") (by walk_at "pf") ?_)
  | ((with_reducible refine hd_setL ?_); refine g_setL (by walk_at "hp") ?_ ?_ ?_)
  | with_reducible refine g_bm ?_
  | with_reducible refine g_bm0 ?_
  | ((with_reducible refine hd_tyL ?_); refine g_tyL (by walk_at "hp") ?_)
  | ((with_reducible refine hd_listOf ?_); first | refine g_listL (by walk_at "sq") ?_ | refine g_listT (by walk_at "st") ?_))
local macro_rules | `(tactic| walk_at "few") => `(tactic| first | decide | (simp only [List.length_cons, List.length_nil]; decide))
local macro_rules | `(tactic| walk_at "go") => `(tactic| repeat walk_at "go1")
local macro_rules | `(tactic| walk_at "len") => `(tactic| (intro h; first | (obtain ⟨e, _⟩ := h; subst e; rfl) | (obtain ⟨_, e, _⟩ := h; subst e; rfl) | (obtain ⟨_, _, e, _⟩ := h; subst e; rfl) | (obtain ⟨_, _, _, e, _⟩ := h; subst e; rfl) | (obtain ⟨_, _, _, _, e, _⟩ := h; subst e; rfl) | (obtain ⟨_, _, _, _, _, e, _⟩ := h; subst e; rfl) | (obtain ⟨_, _, _, _, _, _, e, _⟩ := h; subst e; rfl) | (obtain ⟨_, _, _, _, _, _, _, e, _⟩ := h; subst e; rfl) | (obtain ⟨_, _, _, _, _, _, _, _, e, _⟩ := h; subst e; rfl) | (obtain ⟨_, _, _, _, _, _, _, _, _, e, _⟩ := h; subst e; rfl) | (obtain ⟨_, _, _, _, _, _, _, _, _, _, e, _⟩ := h; subst e; rfl) | (obtain ⟨_, _, _, _, _, _, _, _, _, _, _, e, _⟩ := h; subst e; rfl) | (obtain ⟨_, _, _, _, _, _, _, _, _, _, _, _, e, _⟩ := h; subst e; rfl) | (obtain ⟨_, _, _, _, _, _, _, _, _, _, _, _, _, e, _⟩ := h; subst e; rfl) | (obtain ⟨_, _, _, _, _, _, _, _, _, _, _, _, _, _, e, _⟩ := h; subst e; rfl) | (obtain ⟨_, _, _, _, _, _, _, _, _, _, _, _, _, _, _, e, _⟩ := h; subst e; rfl)))
local macro_rules | `(tactic| walk_at "pf") => `(tactic| first
  | exact pf0
  | exact pfs
  | exact pfn (by decide +kernel) (by walk_at "pf"))
open PySem PySem.Spec L2
/-- some whole number that is not negative -/
def sp__law_row (K : Frag) : Sp := fun vs H Q _ => ∃ (a : Addr) (ns : List Int) (k : Int), vs = [.ref a, .int k] ∧ SqL K H a (ns.map V.int) ∧ 0 ≤ k ∧ ∀ n : Int, 0 ≤ n → Q (.int n) H
abbrev N__law_row : List Str := ["_law_script", "_law_k", "_law_cell", "_law_low", "_law_high"]
def t__law_row (K : Frag) (E : XK) : TS :=
  (tSeq (tAsg (tVar 1) (gName 2)) (tCutG (tIfS (tTest (tOp (rI0 fun i j => V.bl (decide (j < i))) (tCB (rLenQ K) (tCons (tVar 0) tNil)) (tC (V.int 0)))) (tAsg (tCB rInt (tCons (tOp (rIxL K) (tVar 0) (tOp (rI (fun _ j => 0 < j) fun i j => V.int (i % j)) (tVar 1) (tCB (rLenQ K) (tCons (tVar 0) tNil)))) tNil)) (gName 2)) tNext) (tCutG (tIfS (tTest (tOp (rI0 fun i j => V.bl (decide (i < j))) (tVar 2) (tC (V.int 0)))) (tAsg (tOp (rI0 fun i j => V.int (i - j)) (tOp (rI CMul fun i j => V.int (i * j)) (tUn (rU fun i => V.int (-i)) (tC (V.int 2))) (tVar 2)) (tC (V.int 1))) (gName 2)) tNext) (tSeq (tIfS (tAnd (tTest (tOp (rI0 fun i j => V.bl (decide (i < j))) (tVar 1) (tCB (rLenQ K) (tCons (tVar 0) tNil)))) (tTest (tOp (rI0 fun i j => V.bl (decide (j ≤ i))) (tVar 2) (tOp (rI CPow fun i j => V.int (i ^ j.toNat)) (tC (V.int 10)) (tC (V.int 9)))))) (tRet (tVar 2)) tNext) (tSeq (tAsg (tOp (rI (fun _ j => 0 < j) fun i j => V.int (i % j)) (tCB rInt (tCons (tOp (rI0 fun i j => V.int (i + j)) (tOp (rI0 fun i j => V.int (i + j)) (tOp (rI CMul fun i j => V.int (i * j)) (tVar 2) (tC (V.int 48271))) (tOp (rI CMul fun i j => V.int (i * j)) (tVar 1) (tC (V.int 69621)))) (tC (V.int 11))) tNil)) (tC (V.int 2147483647))) (gName 3)) (tSeq (tAsg (tOp (rI (fun _ j => 0 < j) fun i j => V.int (i % j)) (tCB rInt (tCons (tOp (rI0 fun i j => V.int (i + j)) (tOp (rI0 fun i j => V.int (i + j)) (tOp (rI0 fun i j => V.int (i + j)) (tOp (rI CMul fun i j => V.int (i * j)) (tVar 3) (tC (V.int 40692))) (tVar 2)) (tOp (rI CMul fun i j => V.int (i * j)) (tVar 1) (tC (V.int 16807)))) (tC (V.int 5))) tNil)) (tC (V.int 2147483399))) (gName 4)) (tSeq (tAsg (tOp (rI (fun _ j => 0 < j) fun i j => V.int (i % j)) (tCB rInt (tCons (tOp (rI0 fun i j => V.int (i + j)) (tOp (rI0 fun i j => V.int (i + j)) (tOp (rI CMul fun i j => V.int (i * j)) (tVar 3) (tC (V.int 69621))) (tOp (rI CMul fun i j => V.int (i * j)) (tVar 4) (tC (V.int 7)))) (tVar 1)) tNil)) (tC (V.int 2147483647))) (gName 3)) (tRet (tOp (rI0 fun i j => V.int (i + j)) (tOp (rI CMul fun i j => V.int (i * j)) (tVar 4) (tC (V.int 2147483647))) (tVar 3))))))))))
theorem len__law_row {K : Frag} {vs : List V} {H : Hp} {Q : VK} {E : XK} : sp__law_row K vs H Q E → vs.length = (["_law_script", "_law_k"] : List Str).length := by walk_at "len"
theorem pure__law_row {K : Frag} {vs : List V} {H : Hp} {Q : VK} {E : XK} (h : sp__law_row K vs H Q E) : t__law_row K E { nx := fun _ H' => Q .non H', rt := Q } (start N__law_row vs) H := by
  obtain ⟨a, ns, k, rfl, hS, hk, q⟩ := h
  unfold t__law_row
  walk_at "go"
  refine g_cut (fun σ H' => H' = H ∧ ∃ c : Int, σ = [some (.ref a), some (.int k), some (.int c), none, none]) ?_ ?_
  · walk_at "go"
    refine g_it (fun hl => ?_) (fun hl => ?_)
    · walk_at "go"
      have hlen : 0 < ns.length := by simpa using hl
      have hm : k % ((ns.map V.int).length : Int) = ((k.toNat % ns.length : Nat) : Int) := by
        rw [List.length_map]
        have : k = (k.toNat : Int) := by omega
        rw [this]
        simp
      refine g_ixL (n := k.toNat % ns.length) (v := .int (ns[k.toNat % ns.length]'(Nat.mod_lt _ hlen))) (by walk_at "sq") (by rw [List.getElem?_map, List.getElem?_eq_getElem (Nat.mod_lt _ hlen)]; rfl) hm ?_
      walk_at "go"
      exact ⟨rfl, _, rfl⟩
    · walk_at "go"
      exact ⟨rfl, _, rfl⟩
  · rintro σ H' ⟨rfl, c, rfl⟩
    refine g_cut (fun σ H1 => H1 = H' ∧ ∃ c : Int, 0 ≤ c ∧ σ = [some (.ref a), some (.int k), some (.int c), none, none]) ?_ ?_
    · walk_at "go"
      refine g_it (fun hl => ?_) (fun hl => ?_)
      · walk_at "go"
        exact ⟨rfl, _, by omega, rfl⟩
      · walk_at "go"
        exact ⟨rfl, _, by omega, rfl⟩
    · rintro σ H1 ⟨rfl, c, hc, rfl⟩
      walk_at "go"
      refine g_it (fun hl => ?_) (fun hl => ?_)
      · walk_at "go"
        refine g_it (fun hl => ?_) (fun hl => ?_)
        · walk_at "go"
          exact q _ hc
        · walk_at "go"
          exact q _ (by omega)
      · walk_at "go"
        exact q _ (by omega)
/-! ### the data: open files, handles -/
/-- an open file: where it stands and its own dict; its number, access, reserved blocks -/
structure Fl where
  p : Addr
  d : Addr
  n : Int
  acc : Str
  r : Int
abbrev oFl (K : Frag) (f : Fl) : HO := .ins (He.ga K "OpenFile") f.d [("number", .int f.n), ("access", .str f.acc), ("reserved", .int f.r)]
def fV : Option Fl → V
  | none => .non
  | some f => .ref f.p
structure Hands (K : Frag) (H : Hp) (h dh l : Addr) (fs : List (Option Fl)) : Prop where
  obj : H h = some (.ins (He.ga K "Handles") dh [("files", .ref l)])
  lst : H l = some (.lst (fs.map fV))
  len : fs.length = 16
  at_ : ∀ (i : Nat) f, fs[i]? = some (some f) → H f.p = some (oFl K f)
  inj : ∀ (i j : Nat) f g, fs[i]? = some (some f) → fs[j]? = some (some g) → f.p = g.p → i = j
abbrev Row := Int × Str × Int
def Fl.row (f : Fl) : Row := (f.n, f.acc, f.r)
def rows (fs : List (Option Fl)) : List (Option Row) := fs.map (Option.map Fl.row)
def sp_OpenFile___init__ (K : Frag) : Sp := fun vs H Q _ => ∃ (x d : Addr) (n : Int) (acc : Str) (r : Int), vs = [.ref x, .int n, .str acc, .int r] ∧ H x = some (.ins (He.ga K "OpenFile") d []) ∧
  Q .non (upd H x (oFl K ⟨x, d, n, acc, r⟩))
abbrev N_OpenFile___init__ : List Str := ["self", "number", "access", "reserved"]
def t_OpenFile___init__ (K : Frag) (E : XK) : TS :=
  (tSeq (sFldC (He.ga K "OpenFile") (tVar 0) (tVar 1) ("number" : Str)) (tSeq (sFldC (He.ga K "OpenFile") (tVar 0) (tVar 2) ("access" : Str)) (sFldC (He.ga K "OpenFile") (tVar 0) (tVar 3) ("reserved" : Str))))
theorem len_OpenFile___init__ {K : Frag} {vs : List V} {H : Hp} {Q : VK} {E : XK} : sp_OpenFile___init__ K vs H Q E → vs.length = (["self", "number", "access", "reserved"] : List Str).length := by walk_at "len"
theorem pure_OpenFile___init__ {K : Frag} {vs : List V} {H : Hp} {Q : VK} {E : XK} (h : sp_OpenFile___init__ K vs H Q E) : t_OpenFile___init__ K E { nx := fun _ H' => Q .non H', rt := Q } (start N_OpenFile___init__ vs) H := by
  obtain ⟨x, d, n, acc, r, rfl, hx, q⟩ := h
  unfold t_OpenFile___init__
  walk_at "go"
  rw [upd_upd, upd_upd]
  exact q
/-! ### lists of handles -/
theorem Hands.ne {K : Frag} {H : Hp} {h dh l : Addr} {fs : List (Option Fl)} (A : Hands K H h dh l fs) : h ≠ l := ne_of A.obj A.lst (by intro z; cases z)
def sp_Handles___init__ (K : Frag) : Sp := fun vs H Q _ => ∃ (x d : Addr), vs = [.ref x] ∧ H x = some (.ins (He.ga K "Handles") d []) ∧
  ∀ H' l, Keep [x] H H' → H l = none → Hands K H' x d l (List.replicate 16 none) → Q .non H'
abbrev N_Handles___init__ : List Str := ["self"]
def t_Handles___init__ (K : Frag) (E : XK) : TS :=
  (sFldC (He.ga K "Handles") (tVar 0) (tOp rRep (tLst (tCons (tC V.non) tNil)) (tC (V.int 16))) ("files" : Str))
theorem len_Handles___init__ {K : Frag} {vs : List V} {H : Hp} {Q : VK} {E : XK} : sp_Handles___init__ K vs H Q E → vs.length = (["self"] : List Str).length := by walk_at "len"
theorem pure_Handles___init__ {K : Frag} {vs : List V} {H : Hp} {Q : VK} {E : XK} (h : sp_Handles___init__ K vs H Q E) : t_Handles___init__ K E { nx := fun _ H' => Q .non H', rt := Q } (start N_Handles___init__ vs) H := by
  obtain ⟨x, d, rfl, hx, q⟩ := h
  unfold t_Handles___init__
  walk_at "go"
  refine g_newN (by decide) fun p hp => ?_
  walk_at "go"
  refine g_rep1 (by walk_at "hp") (by omega) (by omega) fun l hl => ?_
  walk_at "go"
  refine q _ l (((Keep.refl _ _).new hp |>.new hl).mut (by simp)) (new_of_upd hl).2 ⟨upd_same, ?_, by simp, ?_, ?_⟩
  · have := ne_of_none hx (fr1 hl)
    rw [upd_ne this.symm, upd_same]
    rfl
  · intro i f e
    rw [List.getElem?_replicate] at e
    split at e <;> cases e
  · intro i j f g e
    rw [List.getElem?_replicate] at e
    split at e <;> cases e
/-! ### what becomes of the handles: a file put, taken, changed -/
theorem Hands.keep {K : Frag} {H H' : Hp} {h dh l : Addr} {fs : List (Option Fl)} (A : Hands K H h dh l fs) (k : ∀ b o, H b = some o → H' b = some o) : Hands K H' h dh l fs :=
  ⟨k _ _ A.obj, k _ _ A.lst, A.len, fun i f e => k _ _ (A.at_ i f e), A.inj⟩
theorem Hands.put {K : Frag} {H H' : Hp} {h dh l : Addr} {fs : List (Option Fl)} (A : Hands K H h dh l fs) {k : Nat} {f : Fl} (hk : Keep [l] H H') (hl : H' l = some (.lst ((fs.set k (some f)).map fV))) (hf : H' f.p = some (oFl K f)) (new : H f.p = none) :
    Hands K H' h dh l (fs.set k (some f)) := by
  have key : ∀ (i : Nat) (g : Fl), (fs.set k (some f))[i]? = some (some g) → (i = k ∧ g = f) ∨ (i ≠ k ∧ fs[i]? = some (some g)) := by
    intro i g e
    rw [List.getElem?_set] at e
    by_cases c : k = i
    · subst c
      rw [if_pos rfl] at e
      split at e
      · cases e; exact .inl ⟨rfl, rfl⟩
      · cases e
    · rw [if_neg c] at e
      exact .inr ⟨fun z => c z.symm, e⟩
  have nef : ∀ (i : Nat) (g : Fl), fs[i]? = some (some g) → g.p ≠ f.p := fun i g e => ne_fresh new (A.at_ i g e)
  refine ⟨hk _ _ A.obj (nm1 A.ne), hl, by rw [List.length_set]; exact A.len, fun i g e => ?_, fun i j g g' e e' q => ?_⟩
  · rcases key i g e with ⟨rfl, rfl⟩ | ⟨_, e⟩
    · exact hf
    · exact hk _ _ (A.at_ i g e) (nm1 (ne_of (A.at_ i g e) A.lst (by unfold oFl; intro z; cases z)))
  · rcases key i g e with ⟨ei, eg⟩ | ⟨_, ei⟩ <;> rcases key j g' e' with ⟨ej, eg'⟩ | ⟨_, ej⟩
    · exact ei.trans ej.symm
    · exact absurd q.symm (by rw [eg]; exact nef j g' ej)
    · exact absurd q (by rw [eg']; exact nef i g ei)
    · exact A.inj i j g g' ei ej q
theorem Hands.take {K : Frag} {H H' : Hp} {h dh l : Addr} {fs : List (Option Fl)} (A : Hands K H h dh l fs) {k : Nat} (hk : Keep [l] H H') (hl : H' l = some (.lst ((fs.set k none).map fV))) : Hands K H' h dh l (fs.set k none) := by
  have key : ∀ (i : Nat) (g : Fl), (fs.set k none)[i]? = some (some g) → fs[i]? = some (some g) := by
    intro i g e
    rw [List.getElem?_set] at e
    split at e
    · split at e <;> cases e
    · exact e
  exact ⟨hk _ _ A.obj (nm1 A.ne), hl, by rw [List.length_set]; exact A.len, fun i g e => hk _ _ (A.at_ i g (key i g e)) (nm1 (ne_of (A.at_ i g (key i g e)) A.lst (by unfold oFl; intro z; cases z))),
    fun i j g g' e e' q => A.inj i j g g' (key i g e) (key j g' e') q⟩
theorem Hands.chg {K : Frag} {H H' : Hp} {h dh l : Addr} {fs : List (Option Fl)} (A : Hands K H h dh l fs) {k : Nat} {f f' : Fl} (e0 : fs[k]? = some (some f)) (ep : f'.p = f.p) (hk : Keep [f.p] H H') (hf : H' f'.p = some (oFl K f')) :
    Hands K H' h dh l (fs.set k (some f')) := by
  have hl : k < fs.length := (List.getElem?_eq_some_iff.mp e0).1
  have key : ∀ (i : Nat) (g : Fl), (fs.set k (some f'))[i]? = some (some g) → (i = k ∧ g = f') ∨ (i ≠ k ∧ fs[i]? = some (some g)) := by
    intro i g e
    rw [List.getElem?_set] at e
    by_cases c : k = i
    · subst c
      rw [if_pos rfl, if_pos hl] at e
      cases e; exact .inl ⟨rfl, rfl⟩
    · rw [if_neg c] at e
      exact .inr ⟨fun z => c z.symm, e⟩
  have ms : (fs.set k (some f')).map fV = fs.map fV := by
    rw [List.map_set]
    refine List.ext_getElem? fun i => ?_
    rw [List.getElem?_set]
    split
    · rename_i c
      subst c
      rw [List.length_map, if_pos hl, List.getElem?_map, e0]
      show some (V.ref f'.p) = some (V.ref f.p)
      rw [ep]
    · rfl
  have nol : f.p ≠ l := ne_of (A.at_ k f e0) A.lst (by unfold oFl; intro z; cases z)
  have noh : f.p ≠ h := ne_of (A.at_ k f e0) A.obj (by unfold oFl; intro z; injection z with _ _ z; cases z)
  refine ⟨hk _ _ A.obj (nm1 noh.symm), by rw [ms]; exact hk _ _ A.lst (nm1 nol.symm), by rw [List.length_set]; exact A.len, fun i g e => ?_, fun i j g g' e e' q => ?_⟩
  · rcases key i g e with ⟨rfl, rfl⟩ | ⟨c, e⟩
    · exact hf
    · exact hk _ _ (A.at_ i g e) (nm1 fun z => c (A.inj i k g f e e0 z))
  · rcases key i g e with ⟨ei, eg⟩ | ⟨c, ei⟩ <;> rcases key j g' e' with ⟨ej, eg'⟩ | ⟨c', ej⟩
    · exact ei.trans ej.symm
    · exact absurd (A.inj j k g' f ej e0 (q.symm.trans (by rw [eg]; exact ep))) c'
    · exact absurd (A.inj i k g f ei e0 (q.trans (by rw [eg']; exact ep))) c
    · exact A.inj i j g g' ei ej q
theorem rows_set {fs : List (Option Fl)} {k : Nat} {o : Option Fl} : rows (fs.set k o) = (rows fs).set k (o.map Fl.row) := by
  unfold rows
  rw [List.map_set]
theorem fv_none {o : Option Fl} : (decide (fV o = .non)) = o.isNone := by cases o <;> rfl
/-- the file of a handle -/
def look {α : Type} (rs : List (Option α)) (h : Int) : Option α := if 0 ≤ h ∧ h < 16 then (rs[h.toNat]?).join else none
theorem look_no {α : Type} {rs : List (Option α)} {h : Int} (c : ¬ (0 ≤ h ∧ h < 16)) : look rs h = none := if_neg c
theorem look_at {α : Type} {rs : List (Option α)} {h : Int} (c : 0 ≤ h ∧ h < 16) (hk : h.toNat < rs.length) : look rs h = rs[h.toNat] := by
  unfold look
  rw [if_pos c, List.getElem?_eq_getElem hk]
  rfl
def sp_Handles_get (K : Frag) : Sp := fun vs H Q E => ∃ (h dh l : Addr) (fs : List (Option Fl)) (k : Int), vs = [.ref h, .int k] ∧ Hands K H h dh l fs ∧
  (look fs k = none → E (.ref (He.ga K "BadHandle")) none H) ∧ (∀ f, look fs k = some f → Q (.ref f.p) H)
abbrev N_Handles_get : List Str := ["self", "handle"]
def t_Handles_get (K : Frag) (E : XK) : TS :=
  (tSeq (tIfS (tOr (tTest (tOp (rI0 fun i j => V.bl (decide (i < j))) (tVar 1) (tC (V.int 0)))) (tOr (tTest (tOp (rI0 fun i j => V.bl (decide (j ≤ i))) (tVar 1) (tC (V.int 16)))) (tTest (tOp rIsN (tOp (rIxL K) (tFldC (He.ga K "Handles") (tVar 0) ("files" : Str)) (tVar 1)) (tC V.non))))) (tRaiseC (WD E) (He.ga K "BadHandle")) tNext) (tRet (tOp (rIxL K) (tFldC (He.ga K "Handles") (tVar 0) ("files" : Str)) (tVar 1))))
theorem len_Handles_get {K : Frag} {vs : List V} {H : Hp} {Q : VK} {E : XK} : sp_Handles_get K vs H Q E → vs.length = (["self", "handle"] : List Str).length := by walk_at "len"
theorem pure_Handles_get {K : Frag} {vs : List V} {H : Hp} {Q : VK} {E : XK} (h : sp_Handles_get K vs H Q E) : t_Handles_get K E { nx := fun _ H' => Q .non H', rt := Q } (start N_Handles_get vs) H := by
  obtain ⟨h, dh, l, fs, k, rfl, A, kE, kQ⟩ := h
  have A1 := A.obj
  have A2 := A.lst
  unfold t_Handles_get
  walk_at "go"
  refine g_it (fun c => ?_) (fun c => ?_)
  · walk_at "go"
    exact kE (look_no (by omega))
  · walk_at "go"
    refine g_it (fun c2 => ?_) (fun c2 => ?_)
    · walk_at "go"
      exact kE (look_no (by omega))
    · walk_at "go"
      have hk : k.toNat < fs.length := by rw [A.len]; omega
      have e : look fs k = fs[k.toNat] := look_at (by omega) hk
      have ev : (fs.map fV)[k.toNat]? = some (fV fs[k.toNat]) := by rw [List.getElem?_map, List.getElem?_eq_getElem hk]; rfl
      refine g_ixL (n := k.toNat) (by walk_at "sq") ev (by omega) ?_
      walk_at "go"
      refine g_isN (r := (fs[k.toNat]).isNone) fv_none ?_
      walk_at "go"
      refine g_itb (fun n => ?_) (fun n => ?_)
      · walk_at "go"
        exact kE (by rw [e]; exact Option.isNone_iff_eq_none.mp n)
      · walk_at "go"
        refine g_ixL (n := k.toNat) (by walk_at "sq") ev (by omega) ?_
        cases ef : fs[k.toNat] with
        | none => rw [ef] at n; cases n
        | some f => exact kQ f (e.trans ef)
def bad (fs : List (Option Fl)) (k : Int) (no : Str) : Prop := look fs k = none ∨ ∃ f, look fs k = some f ∧ f.acc = no
def sp_Handles_reading (K : Frag) : Sp := fun vs H Q E => ∃ (h dh l : Addr) (fs : List (Option Fl)) (k : Int), vs = [.ref h, .int k] ∧ Hands K H h dh l fs ∧
  (bad fs k "write" → E (.ref (He.ga K "BadHandle")) none H) ∧ (∀ f, look fs k = some f → ¬ f.acc = "write" → Q (.ref f.p) H)
theorem look_at_ {α : Type} {fs : List (Option α)} {k : Int} {f : α} (e : look fs k = some f) : 0 ≤ k ∧ k < 16 ∧ fs[k.toNat]? = some (some f) := by
  unfold look at e
  split at e
  · rename_i c
    refine ⟨c.1, c.2, ?_⟩
    cases q : fs[k.toNat]? with
    | none => rw [q] at e; cases e
    | some o =>
      rw [q] at e
      exact congrArg some e
  · cases e
abbrev N_Handles_reading : List Str := ["self", "handle", "file"]
def t_Handles_reading (K : Frag) (E : XK) : TS :=
  (tSeq (tAsg (tMethG (He.ga K "Handles") ("get" : Str) (sp_Handles_get K) [] (WD E) (tVar 0) (tCons (tVar 1) tNil)) (gName 2)) (tSeq (tIfS (tTest (tOp rEq (tFldC (He.ga K "OpenFile") (tVar 2) ("access" : Str)) (tC (V.str "write")))) (tRaiseC (WD E) (He.ga K "BadHandle")) tNext) (tRet (tVar 2))))
theorem len_Handles_reading {K : Frag} {vs : List V} {H : Hp} {Q : VK} {E : XK} : sp_Handles_reading K vs H Q E → vs.length = (["self", "handle"] : List Str).length := by walk_at "len"
theorem pure_Handles_reading {K : Frag} {vs : List V} {H : Hp} {Q : VK} {E : XK} (h : sp_Handles_reading K vs H Q E) : t_Handles_reading K E { nx := fun _ H' => Q .non H', rt := Q } (start N_Handles_reading vs) H := by
  obtain ⟨h, dh, l, fs, k, rfl, A, kE, kQ⟩ := h
  have A1 := A.obj
  unfold t_Handles_reading
  walk_at "go"
  refine ⟨h, dh, l, fs, k, rfl, A, fun e => kE (.inl e), fun f e => ?_⟩
  have Af := A.at_ _ f (look_at_ e).2.2
  walk_at "go"
  refine g_it (fun c => ?_) (fun c => ?_)
  · walk_at "go"
    exact kE (.inr ⟨f, e, c⟩)
  · walk_at "go"
    exact kQ f e c
def sp_Handles_writing (K : Frag) : Sp := fun vs H Q E => ∃ (h dh l : Addr) (fs : List (Option Fl)) (k : Int), vs = [.ref h, .int k] ∧ Hands K H h dh l fs ∧
  (bad fs k "read" → E (.ref (He.ga K "BadHandle")) none H) ∧ (∀ f, look fs k = some f → ¬ f.acc = "read" → Q (.ref f.p) H)
abbrev N_Handles_writing : List Str := ["self", "handle", "file"]
def t_Handles_writing (K : Frag) (E : XK) : TS :=
  (tSeq (tAsg (tMethG (He.ga K "Handles") ("get" : Str) (sp_Handles_get K) [] (WD E) (tVar 0) (tCons (tVar 1) tNil)) (gName 2)) (tSeq (tIfS (tTest (tOp rEq (tFldC (He.ga K "OpenFile") (tVar 2) ("access" : Str)) (tC (V.str "read")))) (tRaiseC (WD E) (He.ga K "BadHandle")) tNext) (tRet (tVar 2))))
theorem len_Handles_writing {K : Frag} {vs : List V} {H : Hp} {Q : VK} {E : XK} : sp_Handles_writing K vs H Q E → vs.length = (["self", "handle"] : List Str).length := by walk_at "len"
theorem pure_Handles_writing {K : Frag} {vs : List V} {H : Hp} {Q : VK} {E : XK} (h : sp_Handles_writing K vs H Q E) : t_Handles_writing K E { nx := fun _ H' => Q .non H', rt := Q } (start N_Handles_writing vs) H := by
  obtain ⟨h, dh, l, fs, k, rfl, A, kE, kQ⟩ := h
  have A1 := A.obj
  unfold t_Handles_writing
  walk_at "go"
  refine ⟨h, dh, l, fs, k, rfl, A, fun e => kE (.inl e), fun f e => ?_⟩
  have Af := A.at_ _ f (look_at_ e).2.2
  walk_at "go"
  refine g_it (fun c => ?_) (fun c => ?_)
  · walk_at "go"
    exact kE (.inr ⟨f, e, c⟩)
  · walk_at "go"
    exact kQ f e c
open PySem PySem.Spec L2
def sp_Handles_free (K : Frag) : Sp := fun vs H Q E => ∃ (h dh l : Addr) (fs : List (Option Fl)) (k : Int), vs = [.ref h, .int k] ∧ Hands K H h dh l fs ∧
  (look fs k = none → E (.ref (He.ga K "BadHandle")) none H) ∧ (∀ f H', look fs k = some f → Keep [l] H H' → Hands K H' h dh l (fs.set k.toNat none) → H' f.p = some (oFl K f) → Q (.ref f.p) H')
abbrev N_Handles_free : List Str := ["self", "handle", "file"]
def t_Handles_free (K : Frag) (E : XK) : TS :=
  (tSeq (tAsg (tMethG (He.ga K "Handles") ("get" : Str) (sp_Handles_get K) [] (WD E) (tVar 0) (tCons (tVar 1) tNil)) (gName 2)) (tSeq (tAsg (tC V.non) (gSub (tFldC (He.ga K "Handles") (tVar 0) ("files" : Str)) (tVar 1) rSetL)) (tRet (tVar 2))))
theorem len_Handles_free {K : Frag} {vs : List V} {H : Hp} {Q : VK} {E : XK} : sp_Handles_free K vs H Q E → vs.length = (["self", "handle"] : List Str).length := by walk_at "len"
theorem pure_Handles_free {K : Frag} {vs : List V} {H : Hp} {Q : VK} {E : XK} (h : sp_Handles_free K vs H Q E) : t_Handles_free K E { nx := fun _ H' => Q .non H', rt := Q } (start N_Handles_free vs) H := by
  obtain ⟨h, dh, l, fs, k, rfl, A, kE, kQ⟩ := h
  have A1 := A.obj
  have A2 := A.lst
  unfold t_Handles_free
  walk_at "go"
  refine ⟨h, dh, l, fs, k, rfl, A, kE, fun f e => ?_⟩
  obtain ⟨c1, c2, e2⟩ := look_at_ e
  have Af := A.at_ _ f e2
  walk_at "go"
  refine g_setL (n := k.toNat) (by walk_at "hp") (by rw [List.length_map, A.len]; omega) (by omega) ?_
  walk_at "go"
  have kp : Keep [l] H (upd H l (.lst ((fs.map fV).set k.toNat .non))) := (Keep.refl _ _).mut (by simp)
  refine kQ f _ e kp (A.take kp (by rw [upd_same, List.map_set]; rfl)) (kp _ _ Af (nm1 (ne_of Af A2 (by intro z; cases z))))
def sp_Handles_reserve (K : Frag) : Sp := fun vs H Q E => ∃ (h dh l : Addr) (fs : List (Option Fl)) (k m : Int), vs = [.ref h, .int k, .int m] ∧ Hands K H h dh l fs ∧
  (bad fs k "read" → E (.ref (He.ga K "BadHandle")) none H) ∧ (∀ f H', look fs k = some f → ¬ f.acc = "read" → Keep [f.p] H H' → Hands K H' h dh l (fs.set k.toNat (some ⟨f.p, f.d, f.n, f.acc, m⟩)) → Q .non H')
abbrev N_Handles_reserve : List Str := ["self", "handle", "blocks", "file"]
def t_Handles_reserve (K : Frag) (E : XK) : TS :=
  (tSeq (tAsg (tMethG (He.ga K "Handles") ("writing" : Str) (sp_Handles_writing K) [] (WD E) (tVar 0) (tCons (tVar 1) tNil)) (gName 3)) (sFldC (He.ga K "OpenFile") (tVar 3) (tVar 2) ("reserved" : Str)))
theorem len_Handles_reserve {K : Frag} {vs : List V} {H : Hp} {Q : VK} {E : XK} : sp_Handles_reserve K vs H Q E → vs.length = (["self", "handle", "blocks"] : List Str).length := by walk_at "len"
theorem pure_Handles_reserve {K : Frag} {vs : List V} {H : Hp} {Q : VK} {E : XK} (h : sp_Handles_reserve K vs H Q E) : t_Handles_reserve K E { nx := fun _ H' => Q .non H', rt := Q } (start N_Handles_reserve vs) H := by
  obtain ⟨h, dh, l, fs, k, m, rfl, A, kE, kQ⟩ := h
  have A1 := A.obj
  have A2 := A.lst
  unfold t_Handles_reserve
  walk_at "go"
  refine ⟨h, dh, l, fs, k, rfl, A, kE, fun f e ne => ?_⟩
  obtain ⟨c1, c2, e2⟩ := look_at_ e
  have Af := A.at_ _ f e2
  walk_at "go"
  refine kQ f _ e ne ((Keep.refl _ _).mut (by simp)) (A.chg e2 rfl ((Keep.refl _ _).mut (by simp)) upd_same)
def sp_Handles_acquire (K : Frag) : Sp := fun vs H Q E => ∃ (h dh l : Addr) (fs : List (Option Fl)) (n : Int) (acc : Str), vs = [.ref h, .int n, .str acc] ∧ Hands K H h dh l fs ∧
  ((∀ i < 16, fs[i]? ≠ some none) → E (.ref (He.ga K "TooManyOpen")) none H) ∧
  (∀ (k : Nat) (p d : Addr) H', k < 16 → fs[k]? = some none → (∀ i < k, fs[i]? ≠ some none) → Keep [l] H H' → H p = none → Hands K H' h dh l (fs.set k (some ⟨p, d, n, acc, 0⟩)) → Q (.int (k : Int)) H')
abbrev N_Handles_acquire : List Str := ["self", "number", "access", "handle"]
def t_Handles_acquire (K : Frag) (E : XK) : TS :=
  (tSeq (tFor (iRng1 (tCons (tC (V.int 16)) tNil)) (gName 3) (tIfS (tTest (tOp rIsN (tOp (rIxL K) (tFldC (He.ga K "Handles") (tVar 0) ("files" : Str)) (tVar 3)) (tC V.non))) (tSeq (tAsg (tMakeG (He.ga K "OpenFile") (sp_OpenFile___init__ K) [V.int 0] (WD E) (tCons (tVar 1) (tCons (tVar 2) tNil))) (gSub (tFldC (He.ga K "Handles") (tVar 0) ("files" : Str)) (tVar 3) rSetL)) (tRet (tVar 3))) tNext)) (tRaiseC (WD E) (He.ga K "TooManyOpen")))
theorem len_Handles_acquire {K : Frag} {vs : List V} {H : Hp} {Q : VK} {E : XK} : sp_Handles_acquire K vs H Q E → vs.length = (["self", "number", "access"] : List Str).length := by walk_at "len"
theorem pure_Handles_acquire {K : Frag} {vs : List V} {H : Hp} {Q : VK} {E : XK} (h : sp_Handles_acquire K vs H Q E) : t_Handles_acquire K E { nx := fun _ H' => Q .non H', rt := Q } (start N_Handles_acquire vs) H := by
  obtain ⟨h, dh, l, fs, n, acc, rfl, A, kE, kQ⟩ := h
  have A1 := A.obj
  have A2 := A.lst
  unfold t_Handles_acquire
  walk_at "go"
  refine l_rng1 (fun i σ H' => H' = H ∧ (∃ v, σ = [some (.ref h), some (.int n), some (.str acc), v]) ∧ ∀ j < i, fs[j]? ≠ some none) (by omega) ⟨rfl, ⟨none, rfl⟩, fun j hj => by omega⟩ ?_ ?_
  · rintro i σ H' hi ⟨rfl, ⟨v, rfl⟩, no⟩
    have hk : i < fs.length := by rw [A.len]; omega
    have ev : (fs.map fV)[i]? = some (fV fs[i]) := by rw [List.getElem?_map, List.getElem?_eq_getElem hk]; rfl
    walk_at "go"
    refine g_ixL (n := i) (by walk_at "sq") ev rfl ?_
    walk_at "go"
    refine g_isN (r := (fs[i]).isNone) fv_none ?_
    walk_at "go"
    refine g_itb (fun c => ?_) (fun c => ?_)
    · have e0 : fs[i]? = some none := by rw [List.getElem?_eq_getElem hk, Option.isNone_iff_eq_none.mp c]
      walk_at "go"
      intro x dx nx ndx ne
      refine ⟨x, dx, n, acc, 0, rfl, upd_same, rfl, ?_⟩
      walk_at "go"
      refine g_setL (n := i) (xs := fs.map fV) (by walk_at "hp") (by simpa using hk) rfl ?_
      walk_at "go"
      have kp := (((((Keep.refl [l] H').mutN (o := .own x) ndx).mutN (o := .ins (He.ga K "OpenFile") dx []) nx).mutN (o := oFl K ⟨x, dx, n, acc, 0⟩) nx).mut (p := l) (o := .lst ((fs.map fV).set i (.ref x))) (by simp))
      refine kQ i x dx _ (by omega) e0 no kp nx (A.put kp (by rw [upd_same, List.map_set]; rfl) ?_ nx)
      have nl : x ≠ l := (ne_of_none A2 nx).symm
      rw [upd_ne nl, upd_same]
    · have e0 : fs[i]? ≠ some none := by
        rw [List.getElem?_eq_getElem hk]
        intro z
        rw [Option.some.inj z] at c
        cases c
      walk_at "go"
      exact ⟨rfl, ⟨_, rfl⟩, fun j hj => if e : j = i then e ▸ e0 else no j (by omega)⟩
  · rintro σ H' ⟨rfl, ⟨v, rfl⟩, no⟩
    walk_at "go"
    exact kE no
theorem rows_len {fs : List (Option Fl)} : (rows fs).length = fs.length := List.length_map _
theorem rows_at {fs : List (Option Fl)} {i : Nat} (h : i < fs.length) : (rows fs)[i]? = some ((fs[i]).map Fl.row) := by
  unfold rows
  rw [List.getElem?_map, List.getElem?_eq_getElem h]
  rfl
def sp_Handles_fork (K : Frag) : Sp := fun vs H Q _ => ∃ (h dh l : Addr) (fs : List (Option Fl)), vs = [.ref h] ∧ Hands K H h dh l fs ∧
  ∀ (h' dh' l' : Addr) fs' H', Same H H' → H h' = none → H l' = none → (∀ (i : Nat) f, fs'[i]? = some (some f) → H f.p = none) → Hands K H' h' dh' l' fs' → rows fs' = rows fs → Q (.ref h') H'
abbrev N_Handles_fork : List Str := ["self", "copy", "handle", "file"]
def t_Handles_fork (K : Frag) (E : XK) : TS :=
  (tSeq (tAsg (tMakeG (He.ga K "Handles") (sp_Handles___init__ K) [] (WD E) tNil) (gName 1)) (tSeq (tFor (iRng1 (tCons (tC (V.int 16)) tNil)) (gName 2) (tSeq (tAsg (tOp (rIxL K) (tFldC (He.ga K "Handles") (tVar 0) ("files" : Str)) (tVar 2)) (gName 3)) (tIfS (tTest (tOp rNotN (tVar 3) (tC V.non))) (tAsg (tMakeG (He.ga K "OpenFile") (sp_OpenFile___init__ K) [] (WD E) (tCons (tFldC (He.ga K "OpenFile") (tVar 3) ("number" : Str)) (tCons (tFldC (He.ga K "OpenFile") (tVar 3) ("access" : Str)) (tCons (tFldC (He.ga K "OpenFile") (tVar 3) ("reserved" : Str)) tNil)))) (gSub (tFldC (He.ga K "Handles") (tVar 1) ("files" : Str)) (tVar 2) rSetL)) tNext))) (tRet (tVar 1))))
theorem len_Handles_fork {K : Frag} {vs : List V} {H : Hp} {Q : VK} {E : XK} : sp_Handles_fork K vs H Q E → vs.length = (["self"] : List Str).length := by walk_at "len"
theorem pure_Handles_fork {K : Frag} {vs : List V} {H : Hp} {Q : VK} {E : XK} (h : sp_Handles_fork K vs H Q E) : t_Handles_fork K E { nx := fun _ H' => Q .non H', rt := Q } (start N_Handles_fork vs) H := by
  obtain ⟨h, dh, l, fs, rfl, A, kQ⟩ := h
  unfold t_Handles_fork
  walk_at "go"
  intro h' dh' nh ndh ne
  refine ⟨h', dh', rfl, upd_same, fun H1 l' kp nl A1 => ⟨rfl, ?_⟩⟩
  have nl0 : H l' = none := fr2 nl
  have S1 : Same H H1 := fun b o e => kp b o (by walk_at "hp") (nm1 (ne_of_none e nh))
  walk_at "go"
  refine l_rng1 (fun i σ H2 => Same H H2 ∧ (∃ v v', σ = [some (.ref h), some (.ref h'), v, v']) ∧ ∃ fs1, Hands K H2 h' dh' l' fs1 ∧ (∀ (j : Nat) f, fs1[j]? = some (some f) → H f.p = none) ∧ ∀ j < 16, (rows fs1)[j]? = if j < i then (rows fs)[j]? else some none) (by omega)
    ⟨S1, ⟨_, _, rfl⟩, _, A1, fun j f e => ?_, fun j hj => ?_⟩ ?_ ?_
  · rw [List.getElem?_replicate] at e
    split at e <;> cases e
  · rw [if_neg (by omega)]
    unfold rows
    rw [List.getElem?_map, List.getElem?_replicate, if_pos hj]
    rfl
  · rintro i σ H2 hi ⟨S2, ⟨v, v', rfl⟩, fs1, A2, new, ro⟩
    have A := A.keep S2
    have B1 := A.obj
    have B2 := A.lst
    have C1 := A2.obj
    have C2 := A2.lst
    have hk : i < fs.length := by rw [A.len]; omega
    have hk1 : i < fs1.length := by rw [A2.len]; omega
    have ev : (fs.map fV)[i]? = some (fV fs[i]) := by rw [List.getElem?_map, List.getElem?_eq_getElem hk]; rfl
    walk_at "go"
    refine g_ixL (n := i) (by walk_at "sq") ev rfl ?_
    walk_at "go"
    cases ef : fs[i] with
    | none =>
      refine g_notN (r := false) rfl ?_
      walk_at "go"
      refine ⟨S2, ⟨_, _, rfl⟩, fs1, A2, new, fun j hj => ?_⟩
      rw [ro j hj]
      by_cases c : j = i
      · subst c
        rw [if_neg (by omega), if_pos (by omega), rows_at hk, ef]
        rfl
      · by_cases c2 : j < i
        · rw [if_pos c2, if_pos (by omega)]
        · rw [if_neg c2, if_neg (by omega)]
    | some f =>
      have Af := A.at_ i f (by rw [List.getElem?_eq_getElem hk, ef])
      refine g_notN (r := true) rfl ?_
      walk_at "go"
      intro x dx nx ndx ne
      refine ⟨x, dx, f.n, f.acc, f.r, rfl, upd_same, rfl, ?_⟩
      walk_at "go"
      refine g_setL (n := i) (xs := fs1.map fV) (by walk_at "hp") (by simpa using hk1) rfl ?_
      walk_at "go"
      have kp := (((((Keep.refl [l'] H2).mutN (o := .own x) ndx).mutN (o := .ins (He.ga K "OpenFile") dx []) nx).mutN (o := oFl K ⟨x, dx, f.n, f.acc, f.r⟩) nx).mut (p := l') (o := .lst ((fs1.map fV).set i (.ref x))) (by simp))
      have nl : x ≠ l' := (ne_of_none C2 nx).symm
      refine ⟨fun b o e => kp b o (S2 b o e) (nm1 (ne_of_none e nl0)), ⟨_, _, rfl⟩, fs1.set i (some ⟨x, dx, f.n, f.acc, f.r⟩), A2.put kp (by rw [upd_same, List.map_set]; rfl) (by rw [upd_ne nl, upd_same]) nx, fun j g e => ?_, fun j hj => ?_⟩
      · rw [List.getElem?_set] at e
        split at e
        · cases e
          exact S2.free nx
        · exact new j g e
      · rw [rows_set, List.getElem?_set]
        by_cases c : i = j
        · subst c
          rw [if_pos rfl, if_pos (by rw [rows_len]; exact hk1), if_pos (by omega), rows_at hk, ef]
          rfl
        · rw [if_neg c, ro j hj]
          by_cases c2 : j < i
          · rw [if_pos c2, if_pos (by omega)]
          · rw [if_neg c2, if_neg (by omega)]
  · rintro σ H2 ⟨S2, ⟨v, v', rfl⟩, fs1, A2, new, ro⟩
    walk_at "go"
    refine kQ h' dh' l' fs1 H2 S2 nh nl0 new A2 (List.ext_getElem? fun j => ?_)
    by_cases c : j < 16
    · rw [ro j c, if_pos (show j < Int.toNat 16 from c)]
    · rw [List.getElem?_eq_none (by rw [rows_len, A2.len]; omega), List.getElem?_eq_none (by rw [rows_len, A.len]; omega)]
/-- the numbers of the rows -/
def nums (rs : List (Option Row)) : List Int := rs.filterMap fun r => r.map (·.1)
theorem nums_snoc (rs : List (Option Row)) (r : Option Row) : nums (rs ++ [r]) = nums rs ++ (r.map (·.1)).toList := by
  unfold nums
  rw [List.filterMap_append]
  cases r <;> rfl
theorem take_next {α : Type} {l : List α} {i : Nat} {x : α} (h : l[i]? = some x) : l.take (i + 1) = l.take i ++ [x] := by
  rw [List.take_succ, h]
  rfl
theorem many_le : ∀ l : List Int, many l ≤ l.length
  | [] => Nat.le_refl _
  | c :: l => by
    have e : many (c :: l) = if c ∈ l then many l else many l + 1 := rfl
    have := many_le l
    rw [e, List.length_cons]
    split <;> omega
def sp_Handles_opened_numbers (K : Frag) : Sp := fun vs H Q _ => ∃ (h dh l : Addr) (fs : List (Option Fl)), vs = [.ref h] ∧ Hands K H h dh l fs ∧
  ∀ (out : List Int) (p : Addr) H', Same H H' → H p = none → H' p = some (.lst (out.map V.int)) → out.Pairwise (· < ·) → (∀ k, k ∈ out ↔ k ∈ nums (rows fs)) → Q (.ref p) H'
abbrev N_Handles_opened_numbers : List Str := ["self", "file"]
def t_Handles_opened_numbers (K : Frag) (E : XK) : TS :=
  (tRet (tSoSc (iList K (tFldC (He.ga K "Handles") (tVar 0) ("files" : Str))) (gName 1) (tTest (tOp rNotN (tVar 1) (tC V.non))) (tFldC (He.ga K "OpenFile") (tVar 1) ("number" : Str)) [1]))
theorem len_Handles_opened_numbers {K : Frag} {vs : List V} {H : Hp} {Q : VK} {E : XK} : sp_Handles_opened_numbers K vs H Q E → vs.length = (["self"] : List Str).length := by walk_at "len"
theorem pure_Handles_opened_numbers {K : Frag} {vs : List V} {H : Hp} {Q : VK} {E : XK} (h : sp_Handles_opened_numbers K vs H Q E) : t_Handles_opened_numbers K E { nx := fun _ H' => Q .non H', rt := Q } (start N_Handles_opened_numbers vs) H := by
  obtain ⟨h, dh, l, fs, rfl, A, kQ⟩ := h
  have A1 := A.obj
  have A2 := A.lst
  unfold t_Handles_opened_numbers
  walk_at "go"
  refine l_sosc (xs := fs.map fV) (fun D so i ls H' => H D = none ∧ Same H H' ∧ H' D = some (so ls) ∧ i ≤ 16 ∧ ls.length ≤ i ∧ ∀ k, k ∈ ls ↔ k ∈ nums ((rows fs).take i)) (by walk_at "sq") (fun D so hD => ⟨hD, fun b o e => at_upd (ne_of_none e hD) e, upd_same, by omega, Nat.le_refl _, fun k => by simp [nums]⟩) (fun D so i ls H' p => SqL.of (p.2.1 _ _ A2)) ?_ ?_
  · rintro D so i x ls H' hx ⟨hD, S, hs, hi, hl, hm⟩
    have hk : i < fs.length := by
      have := (List.getElem?_eq_some_iff.mp hx).1
      simpa using this
    have ex : fV fs[i] = x := by
      rw [List.getElem?_map, List.getElem?_eq_getElem hk] at hx
      exact Option.some.inj hx
    have ti := take_next (rows_at hk)
    have hk16 : i < 16 := by rw [A.len] at hk; exact hk
    subst ex
    cases ef : fs[i] with
    | none =>
      rw [ef] at ti
      walk_at "go"
      refine ⟨rfl, ?_⟩
      walk_at "go"
      refine g_notN (r := false) rfl ?_
      walk_at "go"
      refine ⟨hD, S, hs, by omega, by omega, fun k => ?_⟩
      rw [ti, nums_snoc]
      simpa using hm k
    | some f =>
      rw [ef] at ti
      have Af := S _ _ (A.at_ i f (by rw [List.getElem?_eq_getElem hk, ef]))
      have nD : f.p ≠ D := ne_of_none (A.at_ i f (by rw [List.getElem?_eq_getElem hk, ef])) hD
      walk_at "go"
      refine ⟨rfl, ?_⟩
      walk_at "go"
      refine g_notN (r := true) rfl ?_
      walk_at "go"
      refine ⟨f.n, rfl, hs, by have := many_le ls; omega, hD, fun b o e => at_upd (ne_of_none e hD) (S b o e), upd_same, by omega, by rw [List.length_cons]; omega, fun k => ?_⟩
      rw [ti, nums_snoc, List.mem_cons, List.mem_append, hm k]
      constructor
      · rintro (rfl | z)
        · exact .inr (by simp [Fl.row])
        · exact .inl z
      · rintro (z | z)
        · exact .inr z
        · exact .inl (by simpa [Fl.row] using z)
  · rintro D so ls H' ⟨hD, S, hs, hi, hl, hm⟩
    refine ⟨hs, by have := many_le ls; omega, fun out p sorted mem new => ?_⟩
    refine kQ out p _ (fun b o e => at_upd (ne_of_none (S b o e) new) (S b o e)) (S.free new) upd_same sorted fun k => (mem k).trans ((hm k).trans ?_)
    rw [List.length_map, ← rows_len, List.take_length]
open PySem PySem.Spec L2
def sp__law_is_integer (_K : Frag) : Sp := fun vs H Q _ => ∃ i : Int, vs = [.int i] ∧ Q (.bl true) H
abbrev N__law_is_integer : List Str := ["_law_actual"]
def t__law_is_integer (K : Frag) (E : XK) : TS :=
  (tRet (tAndV (tCB (rIsi K) (tCons (tVar 0) (tCons (tC (V.ty "int")) tNil))) (tNotV (tCB (rIsi K) (tCons (tVar 0) (tCons (tC (V.ty "bool")) tNil))))))
theorem len__law_is_integer {K : Frag} {vs : List V} {H : Hp} {Q : VK} {E : XK} : sp__law_is_integer K vs H Q E → vs.length = (["_law_actual"] : List Str).length := by walk_at "len"
theorem pure__law_is_integer {K : Frag} {vs : List V} {H : Hp} {Q : VK} {E : XK} (h : sp__law_is_integer K vs H Q E) : t__law_is_integer K E { nx := fun _ H' => Q .non H', rt := Q } (start N__law_is_integer vs) H := by
  obtain ⟨i, rfl, q⟩ := h
  unfold t__law_is_integer
  walk_at "go"
  refine g_isInt ?_
  walk_at "go"
  refine g_isIntB ?_
  walk_at "go"
  exact q
/-! ### the law's own rows -/
def RV (H : Hp) (p : Addr) (v : V) : Option Row → Prop
  | none => v = .non
  | some (n, a, r) => ∃ q, v = .ref q ∧ q ≠ p ∧ H q = some (.lst [.int n, .str a, .int r])
theorem RV.mono {H H' : Hp} {p : Addr} {v : V} {r : Option Row} (k : ∀ b n a r, b ≠ p → H b = some (.lst [.int n, .str a, .int r]) → H' b = some (.lst [.int n, .str a, .int r])) (h : RV H p v r) : RV H' p v r := by
  match r, h with
  | none, h => exact h
  | some (n, a, r), ⟨q, e, ne, h⟩ => exact ⟨q, e, ne, k _ _ _ _ ne h⟩
def RowsAt (H : Hp) (p : Addr) (rs : List (Option Row)) : Prop := ∃ xs, H p = some (.lst xs) ∧ xs.length = rs.length ∧ ∀ (i : Nat) v r, xs[i]? = some v → rs[i]? = some r → RV H p v r
theorem RowsAt.mono {H H' : Hp} {p : Addr} {rs : List (Option Row)} (h : RowsAt H p rs) (kp : ∀ xs, H p = some (.lst xs) → xs.length = rs.length → H' p = some (.lst xs))
    (k : ∀ b n a r, b ≠ p → H b = some (.lst [.int n, .str a, .int r]) → H' b = some (.lst [.int n, .str a, .int r])) : RowsAt H' p rs := by
  obtain ⟨xs, h1, h2, h3⟩ := h
  exact ⟨xs, kp _ h1 h2, h2, fun i v r e1 e2 => (h3 i v r e1 e2).mono k⟩
theorem RowsAt.keep {H H' : Hp} {p : Addr} {rs : List (Option Row)} (h : RowsAt H p rs) (k : ∀ b o, H b = some o → H' b = some o) : RowsAt H' p rs := h.mono (fun xs e _ => k _ _ e) fun b n a r _ e => k _ _ e
theorem RowsAt.nil {H : Hp} {p : Addr} (h : H p = some (.lst [])) : RowsAt H p [] := ⟨[], h, rfl, fun i v r e => by simp at e⟩
theorem RowsAt.snoc {H : Hp} {p : Addr} {rs : List (Option Row)} {xs : List V} {v : V} {r : Option Row} (h : RowsAt H p rs) (e : H p = some (.lst xs)) (hv : RV H p v r) : RowsAt (upd H p (.lst (xs ++ [v]))) p (rs ++ [r]) := by
  obtain ⟨ys, h1, h2, h3⟩ := h
  obtain rfl : ys = xs := by rw [e] at h1; cases h1; rfl
  refine ⟨_, upd_same, by simp [h2], fun i w s e1 e2 => RV.mono (H := H) (fun b n a r ne e => at_upd ne e) ?_⟩
  rw [List.getElem?_append] at e1 e2
  by_cases c : i < ys.length
  · rw [if_pos c] at e1
    rw [if_pos (by omega)] at e2
    exact h3 i w s e1 e2
  · rw [if_neg c] at e1
    rw [if_neg (by omega), ← h2] at e2
    cases hi : i - ys.length with
    | zero =>
      rw [hi] at e1 e2
      cases e1
      cases e2
      exact hv
    | succ j =>
      rw [hi] at e1
      simp at e1
theorem RowsAt.set {H H' : Hp} {p : Addr} {rs : List (Option Row)} {xs : List V} {v : V} {r : Option Row} {k : Nat} (h : RowsAt H p rs) (e : H p = some (.lst xs)) (kp : Keep [p] H H') (e' : H' p = some (.lst (xs.set k v))) (hv : RV H' p v r) : RowsAt H' p (rs.set k r) := by
  obtain ⟨ys, h1, h2, h3⟩ := h
  obtain rfl : ys = xs := by rw [e] at h1; cases h1; rfl
  refine ⟨_, e', by simp [h2], fun i w s e1 e2 => ?_⟩
  rw [List.getElem?_set] at e1 e2
  by_cases c : k = i
  · subst c
    rw [if_pos rfl] at e1 e2
    split at e1
    · rw [if_pos (by omega)] at e2
      cases e1
      cases e2
      exact hv
    · cases e1
  · rw [if_neg c] at e1 e2
    exact (h3 i w s e1 e2).mono fun b n a r ne e => kp _ _ e (nm1 ne)
theorem RowsAt.len {H : Hp} {p : Addr} {rs : List (Option Row)} {xs : List V} (h : RowsAt H p rs) (e : H p = some (.lst xs)) : xs.length = rs.length := by
  obtain ⟨ys, h1, h2, h3⟩ := h
  obtain rfl : ys = xs := by rw [e] at h1; cases h1; rfl
  exact h2
theorem RowsAt.at_ {H : Hp} {p : Addr} {rs : List (Option Row)} {xs : List V} (h : RowsAt H p rs) (e : H p = some (.lst xs)) {i : Nat} (hi : i < rs.length) : ∃ v, xs[i]? = some v ∧ RV H p v rs[i] := by
  obtain ⟨ys, h1, h2, h3⟩ := h
  obtain rfl : ys = xs := by rw [e] at h1; cases h1; rfl
  have hi' : i < ys.length := by omega
  exact ⟨ys[i], List.getElem?_eq_getElem hi', h3 i _ _ (List.getElem?_eq_getElem hi') (List.getElem?_eq_getElem hi)⟩
/-- as data -/
def rD : Option Row → PyData
  | none => .none
  | some (n, a, r) => .list [.int n, .str a, .int r]
def Okay (rs : List (Option Row)) : Prop := ∀ r, some r ∈ rs → (PyData.str r.2.1).canLay0 = true
theorem fine_row {n r : Int} {a : Str} (h : (PyData.str a).canLay0 = true) : Fine 1 (.list [.int n, .str a, .int r]) := fine_list fun d hd => by
  simp only [List.mem_cons, List.not_mem_nil, or_false] at hd
  rcases hd with rfl | rfl | rfl
  · exact fine_int n
  · exact fine_str h
  · exact fine_int r
theorem fine_rows {rs : List (Option Row)} (h : Okay rs) : Fine 2 (.list (rs.map rD)) := fine_list fun d hd => by
  obtain ⟨r, hr, rfl⟩ := List.mem_map.mp hd
  match r, hr with
  | none, _ => exact fine_none.up (by decide)
  | some (n, a, r), hr => exact fine_row (h _ hr)
theorem RV.dp {K : Frag} {H : Hp} {p : Addr} {v : V} {r : Option Row} (h : RV H p v r) : Dp K H v (rD r) := by
  match r, h with
  | none, h => subst h; exact .non
  | some (n, a, r), ⟨q, e, ne, h'⟩ =>
    subst e
    exact .lst (SqL.of h') (.cons (.int n) (.cons (.str a) (.cons (.int r) .nil)))
theorem RowsAt.dp {K : Frag} {H : Hp} {p : Addr} {rs : List (Option Row)} (h : RowsAt H p rs) : Dp K H (.ref p) (.list (rs.map rD)) := by
  obtain ⟨xs, h1, h2, h3⟩ := h
  refine .lst (SqL.of h1) (dpAll_of (by simpa using h2) fun i v d e1 e2 => ?_)
  rw [List.getElem?_map] at e2
  cases er : rs[i]? with
  | none => rw [er] at e2; cases e2
  | some r =>
    rw [er] at e2
    cases e2
    exact (h3 i v r e1 er).dp
def sp__law_rows (K : Frag) : Sp := fun vs H Q _ => ∃ (h dh l : Addr) (fs : List (Option Fl)), vs = [.ref h] ∧ Hands K H h dh l fs ∧ ∀ p H', Same H H' → H p = none → RowsAt H' p (rows fs) → Q (.ref p) H'
abbrev N__law_rows : List Str := ["_law_handles", "_law_rows_here", "_law_file"]
def t__law_rows (K : Frag) (E : XK) : TS :=
  (tSeq (tAsg (tLst tNil) (gName 1)) (tSeq (tFor (iList K (tFldC (He.ga K "Handles") (tVar 0) ("files" : Str))) (gName 2) (tIfS (tTest (tOp rIsN (tVar 2) (tC V.non))) (tDrop (tBM K "list" rAppend (tVar 1) (tCons (tC V.non) tNil))) (tDrop (tBM K "list" rAppend (tVar 1) (tCons (tLst (tCons (tFldC (He.ga K "OpenFile") (tVar 2) ("number" : Str)) (tCons (tFldC (He.ga K "OpenFile") (tVar 2) ("access" : Str)) (tCons (tFldC (He.ga K "OpenFile") (tVar 2) ("reserved" : Str)) tNil)))) tNil))))) (tRet (tVar 1))))
theorem len__law_rows {K : Frag} {vs : List V} {H : Hp} {Q : VK} {E : XK} : sp__law_rows K vs H Q E → vs.length = (["_law_handles"] : List Str).length := by walk_at "len"
theorem pure__law_rows {K : Frag} {vs : List V} {H : Hp} {Q : VK} {E : XK} (h : sp__law_rows K vs H Q E) : t__law_rows K E { nx := fun _ H' => Q .non H', rt := Q } (start N__law_rows vs) H := by
  obtain ⟨h, dh, l, fs, rfl, A, kQ⟩ := h
  have A1 := A.obj
  have A2 := A.lst
  unfold t__law_rows
  walk_at "go"
  refine g_newN (by decide) fun p hp => ?_
  walk_at "go"
  refine l_list (xs := fs.map fV) (fun i σ H' => Same H H' ∧ (∃ v, σ = [some (.ref h), some (.ref p), v]) ∧ RowsAt H' p ((rows fs).take i)) (by walk_at "sq") ⟨fun b o e => at_upd (ne_of_none e hp) e, ⟨none, rfl⟩, RowsAt.nil upd_same⟩ (fun i σ H' _ q => SqL.of (q.1 _ _ A2)) ?_ ?_
  · rintro i x σ H' hx ⟨S, ⟨v, rfl⟩, R⟩
    have hk : i < fs.length := by
      have := (List.getElem?_eq_some_iff.mp hx).1
      simpa using this
    have ex : fV fs[i] = x := by
      rw [List.getElem?_map, List.getElem?_eq_getElem hk] at hx
      exact Option.some.inj hx
    have ti := take_next (rows_at hk)
    have hk16 : i < 16 := by rw [A.len] at hk; exact hk
    obtain ⟨ys, e1⟩ : ∃ ys, H' p = some (.lst ys) := ⟨_, R.choose_spec.1⟩
    have hl := R.len e1
    have hl2 : ys.length ≤ 16 := by rw [hl, List.length_take]; omega
    have key : ∀ (r : Option Row) v H1, Same H' H1 → H1 p = H' p → RV H1 p v r → RowsAt (upd H1 p (.lst (ys ++ [v]))) p ((rows fs).take i ++ [r]) := fun r v H1 S1 e2 hv => RowsAt.snoc (R.keep S1) (e2.trans e1) hv
    subst ex
    cases ef : fs[i] with
    | none =>
      rw [ef] at ti
      walk_at "go"
      refine g_isN (r := true) rfl ?_
      walk_at "go"
      refine g_app (by walk_at "hp") (by omega) ?_
      walk_at "go"
      refine ⟨fun b o e => at_upd (ne_of_none e hp) (S b o e), ⟨_, rfl⟩, ?_⟩
      rw [ti]
      exact key none _ H' (fun b o e => e) rfl rfl
    | some f =>
      rw [ef] at ti
      have Af := S _ _ (A.at_ i f (by rw [List.getElem?_eq_getElem hk, ef]))
      walk_at "go"
      refine g_isN (r := false) rfl ?_
      walk_at "go"
      refine g_newN (by simp) fun q hq => ?_
      have nq : q ≠ p := (ne_of_none e1 hq).symm
      walk_at "go"
      refine g_app (by walk_at "hp") (by omega) ?_
      walk_at "go"
      have S1 : Same H' (upd H' q (.lst [.int f.n, .str f.acc, .int f.r])) := fun b o e => at_upd (ne_of_none e hq) e
      refine ⟨fun b o e => at_upd (ne_of_none e hp) (S1 b o (S b o e)), ⟨_, rfl⟩, ?_⟩
      rw [ti]
      exact key (some f.row) _ _ S1 (upd_ne nq.symm) ⟨q, rfl, nq, upd_same⟩
  · rintro σ H' ⟨S, ⟨v, rfl⟩, R⟩
    walk_at "go"
    refine kQ p _ S hp ?_
    rw [List.length_map, ← rows_len, List.take_length] at R
    exact R
def sp__law_copy (K : Frag) : Sp := fun vs H Q _ => ∃ (p : Addr) (rs : List (Option Row)), vs = [.ref p] ∧ RowsAt H p rs ∧ rs.length = 16 ∧ ∀ p' H', Same H H' → H p' = none → RowsAt H' p' rs → Q (.ref p') H'
abbrev N__law_copy : List Str := ["_law_rows_here", "_law_copied", "_law_row_here"]
def t__law_copy (K : Frag) (E : XK) : TS :=
  (tSeq (tAsg (tLst tNil) (gName 1)) (tSeq (tFor (iList K (tVar 0)) (gName 2) (tIfS (tTest (tOp rIsN (tVar 2) (tC V.non))) (tDrop (tBM K "list" rAppend (tVar 1) (tCons (tC V.non) tNil))) (tDrop (tBM K "list" rAppend (tVar 1) (tCons (tCB (rListOf K) (tCons (tVar 2) tNil)) tNil))))) (tRet (tVar 1))))
theorem len__law_copy {K : Frag} {vs : List V} {H : Hp} {Q : VK} {E : XK} : sp__law_copy K vs H Q E → vs.length = (["_law_rows_here"] : List Str).length := by walk_at "len"
theorem pure__law_copy {K : Frag} {vs : List V} {H : Hp} {Q : VK} {E : XK} (h : sp__law_copy K vs H Q E) : t__law_copy K E { nx := fun _ H' => Q .non H', rt := Q } (start N__law_copy vs) H := by
  obtain ⟨p0, rs, rfl, R0, l16, kQ⟩ := h
  obtain ⟨zs, A2⟩ : ∃ ys, H p0 = some (.lst ys) := ⟨_, R0.choose_spec.1⟩
  have hz := R0.len A2
  unfold t__law_copy
  walk_at "go"
  refine g_newN (by decide) fun p hp => ?_
  walk_at "go"
  refine l_list (xs := zs) (fun i σ H' => Same H H' ∧ (∃ v, σ = [some (.ref p0), some (.ref p), v]) ∧ RowsAt H' p (rs.take i)) (by walk_at "sq") ⟨fun b o e => at_upd (ne_of_none e hp) e, ⟨none, rfl⟩, RowsAt.nil upd_same⟩ (fun i σ H' _ q => SqL.of (q.1 _ _ A2)) ?_ ?_
  · rintro i x σ H' hx ⟨S, ⟨v, rfl⟩, R⟩
    have hk : i < rs.length := by
      have := (List.getElem?_eq_some_iff.mp hx).1
      omega
    have ti := take_next (List.getElem?_eq_getElem hk)
    obtain ⟨ys, e1⟩ : ∃ ys, H' p = some (.lst ys) := ⟨_, R.choose_spec.1⟩
    have hl := R.len e1
    have hl2 : ys.length ≤ 16 := by rw [hl, List.length_take]; omega
    have key : ∀ (r : Option Row) v H1, Same H' H1 → H1 p = H' p → RV H1 p v r → RowsAt (upd H1 p (.lst (ys ++ [v]))) p (rs.take i ++ [r]) := fun r v H1 S1 e2 hv => RowsAt.snoc (R.keep S1) (e2.trans e1) hv
    obtain ⟨w, ew, rv⟩ := R0.at_ A2 hk
    obtain rfl : w = x := Option.some.inj (ew.symm.trans hx)
    match er : rs[i], rv with
    | none, rv =>
      rw [er] at ti
      cases (show w = V.non from rv)
      walk_at "go"
      refine g_app (by walk_at "hp") (by omega) ?_
      walk_at "go"
      refine ⟨fun b o e => at_upd (ne_of_none e hp) (S b o e), ⟨_, rfl⟩, ?_⟩
      rw [ti]
      exact key none _ H' (fun b o e => e) rfl rfl
    | some (n, a, r), rv =>
      rw [er] at ti
      obtain ⟨q0, e0, _, h0⟩ := rv
      subst e0
      have Af := S _ _ h0
      walk_at "go"
      intro q hq
      have nq : q ≠ p := (ne_of_none e1 hq).symm
      walk_at "go"
      refine g_app (by walk_at "hp") (by omega) ?_
      walk_at "go"
      have S1 : Same H' (upd H' q (.lst [.int n, .str a, .int r])) := fun b o e => at_upd (ne_of_none e hq) e
      refine ⟨fun b o e => at_upd (ne_of_none e hp) (S1 b o (S b o e)), ⟨_, rfl⟩, ?_⟩
      rw [ti]
      exact key (some (n, a, r)) _ _ S1 (upd_ne nq.symm) ⟨q, rfl, nq, upd_same⟩
  · rintro σ H' ⟨S, ⟨v, rfl⟩, R⟩
    walk_at "go"
    refine kQ p _ S hp ?_
    rw [hz, List.take_length] at R
    exact R
open PySem PySem.Spec L2
def sp__law_fields (K : Frag) : Sp := fun vs H Q _ => ∃ (x : Addr) (f : Fl), vs = [.ref x] ∧ H x = some (oFl K f) ∧ ∀ p, H p = none → Q (.ref p) (upd H p (.lst [.int f.n, .str f.acc, .int f.r]))
abbrev N__law_fields : List Str := ["_law_file"]
def t__law_fields (K : Frag) (E : XK) : TS :=
  (tRet (tLst (tCons (tFldC (He.ga K "OpenFile") (tVar 0) ("number" : Str)) (tCons (tFldC (He.ga K "OpenFile") (tVar 0) ("access" : Str)) (tCons (tFldC (He.ga K "OpenFile") (tVar 0) ("reserved" : Str)) tNil)))))
theorem len__law_fields {K : Frag} {vs : List V} {H : Hp} {Q : VK} {E : XK} : sp__law_fields K vs H Q E → vs.length = (["_law_file"] : List Str).length := by walk_at "len"
theorem pure__law_fields {K : Frag} {vs : List V} {H : Hp} {Q : VK} {E : XK} (h : sp__law_fields K vs H Q E) : t__law_fields K E { nx := fun _ H' => Q .non H', rt := Q } (start N__law_fields vs) H := by
  obtain ⟨x, f, rfl, hx, q⟩ := h
  unfold t__law_fields
  walk_at "go"
  exact g_newN (by simp) fun p hp => q p hp
def sp__law_numbers (K : Frag) : Sp := fun vs H Q _ => ∃ (p : Addr) (rs : List (Option Row)), vs = [.ref p] ∧ RowsAt H p rs ∧ rs.length = 16 ∧
  ∀ (out : List Int) (p : Addr) H', Same H H' → H p = none → H' p = some (.lst (out.map V.int)) → out.Pairwise (· < ·) → (∀ k, k ∈ out ↔ k ∈ nums rs) → Q (.ref p) H'
abbrev N__law_numbers : List Str := ["_law_rows_here", "_law_numbers_here", "_law_row_here"]
def t__law_numbers (K : Frag) (E : XK) : TS :=
  (tSeq (tAsg (tLst tNil) (gName 1)) (tSeq (tFor (iList K (tVar 0)) (gName 2) (tIfS (tAnd (tTest (tOp rNotN (tVar 2) (tC V.non))) (tTest (tOp (rIn K true) (tOp (rIxL K) (tVar 2) (tC (V.int 0))) (tVar 1)))) (tDrop (tBM K "list" rAppend (tVar 1) (tCons (tOp (rIxL K) (tVar 2) (tC (V.int 0))) tNil))) tNext)) (tRet (tCB (rSortedI K) (tCons (tVar 1) tNil)))))
theorem len__law_numbers {K : Frag} {vs : List V} {H : Hp} {Q : VK} {E : XK} : sp__law_numbers K vs H Q E → vs.length = (["_law_rows_here"] : List Str).length := by walk_at "len"
theorem pure__law_numbers {K : Frag} {vs : List V} {H : Hp} {Q : VK} {E : XK} (h : sp__law_numbers K vs H Q E) : t__law_numbers K E { nx := fun _ H' => Q .non H', rt := Q } (start N__law_numbers vs) H := by
  obtain ⟨p0, rs, rfl, R0, l16, kQ⟩ := h
  obtain ⟨zs, A2⟩ : ∃ ys, H p0 = some (.lst ys) := ⟨_, R0.choose_spec.1⟩
  have hz := R0.len A2
  unfold t__law_numbers
  walk_at "go"
  refine g_newN (by decide) fun p hp => ?_
  walk_at "go"
  refine l_list (xs := zs) (fun i σ H' => Same H H' ∧ (∃ v, σ = [some (.ref p0), some (.ref p), v]) ∧ ∃ ns : List Int, H' p = some (.lst (ns.map V.int)) ∧ ns.length ≤ i ∧ ns.Nodup ∧ ∀ k, k ∈ ns ↔ k ∈ nums (rs.take i)) (by walk_at "sq")
    ⟨fun b o e => at_upd (ne_of_none e hp) e, ⟨none, rfl⟩, [], upd_same, Nat.le_refl _, List.nodup_nil, fun k => by simp [nums]⟩ (fun i σ H' _ q => SqL.of (q.1 _ _ A2)) ?_ ?_
  · rintro i x σ H' hx ⟨S, ⟨v, rfl⟩, ns, e1, nl, nd, nm⟩
    have hk : i < rs.length := by
      have := (List.getElem?_eq_some_iff.mp hx).1
      omega
    have ti := take_next (List.getElem?_eq_getElem hk)
    obtain ⟨w, ew, rv⟩ := R0.at_ A2 hk
    obtain rfl : w = x := Option.some.inj (ew.symm.trans hx)
    match er : rs[i], rv with
    | none, rv =>
      rw [er] at ti
      cases (show w = V.non from rv)
      walk_at "go"
      refine ⟨S, ⟨_, rfl⟩, ns, e1, by omega, nd, fun k => ?_⟩
      rw [ti, nums_snoc]
      simpa using nm k
    | some (n, a, r), rv =>
      rw [er] at ti
      obtain ⟨q0, e0, _, h0⟩ := rv
      subst e0
      have Af := S _ _ h0
      walk_at "go"
      refine g_ixL (n := 0) (by walk_at "sq") rfl rfl ?_
      walk_at "go"
      refine g_notInI (by walk_at "sq") ?_
      walk_at "go"
      refine g_itn (fun c => ?_) (fun c => ?_)
      · walk_at "go"
        refine g_ixL (n := 0) (by walk_at "sq") rfl rfl ?_
        walk_at "go"
        refine g_app (by walk_at "hp") (by rw [List.length_map]; omega) ?_
        walk_at "go"
        refine ⟨fun b o e => at_upd (ne_of_none e hp) (S b o e), ⟨_, rfl⟩, ns ++ [n], by rw [List.map_append]; exact upd_same, by simp; omega, ?_, fun k => ?_⟩
        · rw [List.nodup_append]
          exact ⟨nd, by simp, fun a ha b hb e => by simp at hb; subst hb; subst e; exact c ha⟩
        · rw [ti, nums_snoc, List.mem_append, List.mem_append, nm k]
          rfl
      · walk_at "go"
        refine ⟨S, ⟨_, rfl⟩, ns, e1, by omega, nd, fun k => ?_⟩
        rw [ti, nums_snoc, List.mem_append, nm k]
        constructor
        · exact .inl
        · rintro (h | h)
          · exact h
          · have : k = n := by simpa using h
            subst this
            exact (nm k).mp c
  · rintro σ H' ⟨S, ⟨v, rfl⟩, ns, e1, nl, nd, nm⟩
    walk_at "go"
    refine g_sortedI (by walk_at "sq") fun ns' p1 pm le new => ?_
    refine kQ ns' p1 _ (fun b o e => at_upd (ne_of_none (S b o e) new) (S b o e)) (S.free new) upd_same (sorted_of pm le nd) fun k => (pm.mem_iff).trans ((nm k).trans ?_)
    rw [hz, List.take_length]
def sp__law_agrees (K : Frag) : Sp := fun vs H Q _ => ∃ (h dh l p : Addr) (fs : List (Option Fl)), vs = [.ref h, .ref p] ∧ Hands K H h dh l fs ∧ RowsAt H p (rows fs) ∧ Okay (rows fs) ∧ ∀ H', Same H H' → Q (.bl true) H'
abbrev N__law_agrees : List Str := ["_law_handles", "_law_rows_here", "_law_numbers_here"]
def t__law_agrees (K : Frag) (E : XK) : TS :=
  (tSeq (tIfS (tOr (tNot (tB (tCB (rIsi K) (tCons (tFldC (He.ga K "Handles") (tVar 0) ("files" : Str)) (tCons (tC (V.ty "list")) tNil))))) (tOr (tTest (tOp rNe (tCB (rLenQ K) (tCons (tFldC (He.ga K "Handles") (tVar 0) ("files" : Str)) tNil)) (tC (V.int 16)))) (tTest (tOp (rNeD K) (tCallG (sp__law_rows K) [] (WD E) (tCons (tVar 0) tNil)) (tVar 1))))) (tRet (tC (V.bl false))) tNext) (tSeq (tAsg (tMethG (He.ga K "Handles") ("opened_numbers" : Str) (sp_Handles_opened_numbers K) [] (WD E) (tVar 0) tNil) (gName 2)) (tSeq (tIfS (tOr (tNot (tB (tCB (rIsi K) (tCons (tVar 2) (tCons (tC (V.ty "list")) tNil))))) (tTest (tOp (rNeD K) (tVar 2) (tCallG (sp__law_numbers K) [] (WD E) (tCons (tVar 1) tNil))))) (tRet (tC (V.bl false))) tNext) (tSeq (tDrop (tBM K "list" rAppend (tVar 2) (tCons (tC (V.int 0)) tNil))) (tRet (tOp (rEqD K) (tMethG (He.ga K "Handles") ("opened_numbers" : Str) (sp_Handles_opened_numbers K) [] (WD E) (tVar 0) tNil) (tCallG (sp__law_numbers K) [] (WD E) (tCons (tVar 1) tNil))))))))
theorem len__law_agrees {K : Frag} {vs : List V} {H : Hp} {Q : VK} {E : XK} : sp__law_agrees K vs H Q E → vs.length = (["_law_handles", "_law_rows_here"] : List Str).length := by walk_at "len"
theorem pure__law_agrees {K : Frag} {vs : List V} {H : Hp} {Q : VK} {E : XK} (h : sp__law_agrees K vs H Q E) : t__law_agrees K E { nx := fun _ H' => Q .non H', rt := Q } (start N__law_agrees vs) H := by
  obtain ⟨h, dh, l, p, fs, rfl, A, R, ok, kQ⟩ := h
  have A1 := A.obj
  have A2 := A.lst
  have l16 : (rows fs).length = 16 := by rw [rows_len, A.len]
  unfold t__law_agrees
  walk_at "go"
  refine g_isLst A2 ?_
  walk_at "go"
  rw [List.length_map, A.len]
  refine g_itF ?_
  walk_at "go"
  refine ⟨h, dh, l, fs, rfl, A, fun p1 H1 S1 n1 R1 => ?_⟩
  walk_at "go"
  refine g_neD R1.dp (R.keep S1).dp (fine_rows ok) ?_
  walk_at "go"
  have B1 := S1 _ _ A1
  walk_at "go"
  refine ⟨h, dh, l, fs, rfl, A.keep S1, fun out q H2 S2 n2 e2 so mo => ?_⟩
  walk_at "go"
  refine g_isLst e2 ?_
  walk_at "go"
  have S12 : Same H H2 := fun b o e => S2 b o (S1 b o e)
  refine ⟨p, rows fs, rfl, R.keep S12, l16, fun out' q' H3 S3 n3 e3 so' mo' => ?_⟩
  obtain rfl : out = out' := sorted_eq so so' fun k => (mo k).trans (mo' k).symm
  refine g_neD (dp_ints (SqL.of (S3 _ _ e2))) (dp_ints (SqL.of e3)) (fine_ints out) ?_
  walk_at "go"
  have e3' := S3 _ _ e2
  walk_at "go"
  refine g_app e3' ?_ ?_
  · rw [List.length_map]
    have h1 : out.length ≤ (nums (rows fs)).length := nodup_len (sorted_nodup so) fun k hk => (mo k).mp hk
    have h2 : (nums (rows fs)).length ≤ (rows fs).length := List.length_filterMap_le _ _
    omega
  walk_at "go"
  have S4 : Same H (upd H3 q (.lst (out.map V.int ++ [.int 0]))) := fun b o e => at_upd (ne_of_none (S1 b o e) n2) (S3 b o (S12 b o e))
  have B4 := S4 _ _ A1
  walk_at "go"
  refine ⟨h, dh, l, fs, rfl, A.keep S4, fun out2 q2 H5 S5 n5 e5 so2 mo2 => ?_⟩
  walk_at "go"
  have S45 : Same H H5 := fun b o e => S5 b o (S4 b o e)
  refine ⟨p, rows fs, rfl, R.keep S45, l16, fun out3 q3 H6 S6 n6 e6 so3 mo3 => ?_⟩
  obtain rfl : out2 = out3 := sorted_eq so2 so3 fun k => (mo2 k).trans (mo3 k).symm
  refine g_eqD (dp_ints (SqL.of (S6 _ _ e5))) (dp_ints (SqL.of e6)) (fine_ints out2) ?_
  exact kQ H6 fun b o e => S6 b o (S45 b o e)
open PySem PySem.Spec L2
/-! ### what is due -/
def fault (s : Str) : PyData := .list [.str "fault", .str s]
def due (rs : List (Option Row)) (kind hd more : Int) (acc : Str) : PyData × List (Option Row) :=
  if kind = 0 then
    if rs.any Option.isNone = true then (.list [.str "handle", .int ((rs.findIdx Option.isNone : Nat) : Int)], rs.set (rs.findIdx Option.isNone) (some (more, acc, 0)))
    else (fault "TooManyOpen", rs)
  else match look rs hd with
  | none => (fault "BadHandle", rs)
  | some r => if (kind = 3 ∧ r.2.1 = "write") ∨ (3 < kind ∧ r.2.1 = "read") then (fault "BadHandle", rs)
    else if kind = 5 then (.list [.str "done", .int 0], rs.set hd.toNat (some (r.1, r.2.1, more)))
    else (.list [.str "file", rD (some r)], if kind = 1 then rs.set hd.toNat none else rs)
theorem fine2 {a : Str} {d : PyData} (h : (PyData.str a).canLay0 = true) (f : Fine 1 d) : Fine 2 (.list [.str a, d]) := fine_list fun x hx => by
  simp only [List.mem_cons, List.not_mem_nil, or_false] at hx
  rcases hx with rfl | rfl
  · exact (fine_str h).up (by decide)
  · exact f
theorem look_mem {α : Type} {rs : List (Option α)} {k : Int} {r : α} (e : look rs k = some r) : some r ∈ rs := List.mem_of_getElem? (look_at_ e).2.2
theorem due_fine {rs : List (Option Row)} {kind hd more : Int} {acc : Str} (h : Okay rs) : Fine 2 (due rs kind hd more acc).1 := by
  unfold due
  split
  · split
    · exact fine2 (by decide +kernel) ((fine_int _).up (by decide))
    · exact fine2 (by decide +kernel) ((fine_str (by decide +kernel)).up (by decide))
  · split
    · exact fine2 (by decide +kernel) ((fine_str (by decide +kernel)).up (by decide))
    · rename_i r e
      split
      · exact fine2 (by decide +kernel) ((fine_str (by decide +kernel)).up (by decide))
      · split
        · exact fine2 (by decide +kernel) ((fine_int _).up (by decide))
        · exact fine2 (by decide +kernel) (fine_row (h _ (look_mem e)))
theorem okay_set {rs : List (Option Row)} {k : Nat} {o : Option Row} (h : Okay rs) (ho : ∀ r, o = some r → (PyData.str r.2.1).canLay0 = true) : Okay (rs.set k o) := fun r hr => by
  rcases List.mem_or_eq_of_mem_set hr with m | e
  · exact h r m
  · exact ho r e.symm
theorem due_okay {rs : List (Option Row)} {kind hd more : Int} {acc : Str} (h : Okay rs) (ha : (PyData.str acc).canLay0 = true) : Okay (due rs kind hd more acc).2 := by
  unfold due
  split
  · split
    · exact okay_set h fun r e => by cases e; exact ha
    · exact h
  · split
    · exact h
    · rename_i r e
      split
      · exact h
      · split
        · exact okay_set h fun r' e' => by cases e'; exact h r (look_mem e)
        · show Okay (if kind = 1 then rs.set hd.toNat none else rs)
          split
          · exact okay_set h fun r' e' => by cases e'
          · exact h
theorem due_len {rs : List (Option Row)} {kind hd more : Int} {acc : Str} : (due rs kind hd more acc).2.length = rs.length := by
  unfold due
  split
  · split
    · simp
    · rfl
  · split
    · rfl
    · split
      · rfl
      · split
        · simp
        · show List.length (if kind = 1 then rs.set hd.toNat none else rs) = _
          split
          · simp
          · rfl
theorem any_none {rs : List (Option Row)} : (rs.map rD).any (fun z => PyData.eqv z .none) = rs.any Option.isNone := by
  rw [List.any_map]
  congr 1
  funext r
  cases r with
  | none => rfl
  | some r => rfl
theorem g_indexN {K : Frag} {H : Hp} {Q : VK} {p : Addr} {rs : List (Option Row)} (R : RowsAt H p rs) (ok : Okay rs) (h : rs.any Option.isNone = true) (q : Q (.int ((rs.findIdx Option.isNone : Nat) : Int)) H) : rIndexD K (.ref p) [.non] H Q := by
  have hf : rs.findIdx Option.isNone < rs.length := List.findIdx_lt_length.mpr (by simpa using h)
  refine ⟨p, .non, .none, rs.map rD, rs.findIdx Option.isNone, rD (rs[rs.findIdx Option.isNone]), rfl, rfl, R.dp, .non, (fine_rows ok).shaped, fine_none.shaped, ?_, ?_, ?_, q⟩
  · rw [List.getElem?_map, List.getElem?_eq_getElem hf]
    rfl
  · have := List.findIdx_getElem (w := hf)
    cases e : rs[rs.findIdx Option.isNone] with
    | none => rfl
    | some r => rw [e] at this; cases this
  · intro m z hm hz
    have hm' : m < rs.length := by omega
    rw [List.getElem?_map, List.getElem?_eq_getElem hm'] at hz
    have := List.not_of_lt_findIdx hm
    cases e : rs[m] with
    | none => rw [e] at this; cases this
    | some r =>
      rw [e] at hz
      cases hz
      rfl
def sp__law_due (K : Frag) : Sp := fun vs H Q _ => ∃ (p : Addr) (rs : List (Option Row)) (kind hd more : Int) (acc : Str), vs = [.ref p, .int kind, .int hd, .int more, .str acc] ∧ RowsAt H p rs ∧ Okay rs ∧ rs.length = 16 ∧
  0 ≤ kind ∧ kind < 6 ∧ ∀ v H', Keep [p] H H' → RowsAt H' p (due rs kind hd more acc).2 → Dp K H' v (due rs kind hd more acc).1 → Q v H'
abbrev N__law_due : List Str := ["_law_rows_here", "_law_kind", "_law_handle", "_law_more", "_law_access", "_law_least", "_law_row_here"]
def t__law_due (K : Frag) (E : XK) : TS :=
  (tSeq (tIfS (tTest (tOp rEq (tVar 1) (tC (V.int 0)))) (tSeq (tIfS (tTest (tOp (rNotInD K) (tC V.non) (tVar 0))) (tRet (tLst (tCons (tC (V.str "fault")) (tCons (tC (V.str "TooManyOpen")) tNil)))) tNext) (tSeq (tAsg (tBM K "list" (rIndexD K) (tVar 0) (tCons (tC V.non) tNil)) (gName 5)) (tSeq (tAsg (tLst (tCons (tVar 3) (tCons (tVar 4) (tCons (tC (V.int 0)) tNil)))) (gSub (tVar 0) (tVar 5) rSetL)) (tRet (tLst (tCons (tC (V.str "handle")) (tCons (tVar 5) tNil))))))) tNext) (tSeq (tIfS (tOr (tTest (tOp (rI0 fun i j => V.bl (decide (i < j))) (tVar 2) (tC (V.int 0)))) (tOr (tTest (tOp (rI0 fun i j => V.bl (decide (j < i))) (tVar 2) (tC (V.int 15)))) (tTest (tOp rIsN (tOp (rIxL K) (tVar 0) (tVar 2)) (tC V.non))))) (tRet (tLst (tCons (tC (V.str "fault")) (tCons (tC (V.str "BadHandle")) tNil)))) tNext) (tSeq (tAsg (tCB (rListOf K) (tCons (tOp (rIxL K) (tVar 0) (tVar 2)) tNil)) (gName 6)) (tSeq (tIfS (tOr (tAnd (tTest (tOp rEq (tVar 1) (tC (V.int 3)))) (tTest (tOp rEq (tOp (rIxL K) (tVar 6) (tC (V.int 1))) (tC (V.str "write"))))) (tAnd (tTest (tOp (rI0 fun i j => V.bl (decide (j < i))) (tVar 1) (tC (V.int 3)))) (tTest (tOp rEq (tOp (rIxL K) (tVar 6) (tC (V.int 1))) (tC (V.str "read")))))) (tRet (tLst (tCons (tC (V.str "fault")) (tCons (tC (V.str "BadHandle")) tNil)))) tNext) (tSeq (tIfS (tTest (tOp rEq (tVar 1) (tC (V.int 1)))) (tAsg (tC V.non) (gSub (tVar 0) (tVar 2) rSetL)) tNext) (tSeq (tIfS (tTest (tOp rEq (tVar 1) (tC (V.int 5)))) (tSeq (tAsg (tLst (tCons (tOp (rIxL K) (tVar 6) (tC (V.int 0))) (tCons (tOp (rIxL K) (tVar 6) (tC (V.int 1))) (tCons (tVar 3) tNil)))) (gSub (tVar 0) (tVar 2) rSetL)) (tRet (tLst (tCons (tC (V.str "done")) (tCons (tC (V.int 0)) tNil))))) tNext) (tRet (tLst (tCons (tC (V.str "file")) (tCons (tVar 6) tNil))))))))))
theorem len__law_due {K : Frag} {vs : List V} {H : Hp} {Q : VK} {E : XK} : sp__law_due K vs H Q E → vs.length = (["_law_rows_here", "_law_kind", "_law_handle", "_law_more", "_law_access"] : List Str).length := by walk_at "len"
theorem pure__law_due {K : Frag} {vs : List V} {H : Hp} {Q : VK} {E : XK} (h : sp__law_due K vs H Q E) : t__law_due K E { nx := fun _ H' => Q .non H', rt := Q } (start N__law_due vs) H := by
  obtain ⟨p, rs, kind, hd, more, acc, rfl, R, ok, l16, k0, k6, kQ⟩ := h
  obtain ⟨xs, A2⟩ : ∃ ys, H p = some (.lst ys) := ⟨_, R.choose_spec.1⟩
  have hz := R.len A2
  have hnew : ∀ {H1 : Hp} {q : Addr} {o : HO} {r : List (Option Row)}, Keep [p] H H1 → H1 q = none → RowsAt H1 p r → Keep [p] H (upd H1 q o) ∧ RowsAt (upd H1 q o) p r := fun k n r => ⟨k.new n, r.keep fun b o e => at_upd (ne_of_none e n) e⟩
  unfold t__law_due
  walk_at "go"
  refine g_it (fun c => ?_) (fun c => ?_)
  · subst c
    walk_at "go"
    refine ⟨.none, rs.map rD, .non, R.dp, fine_none.shaped, (fine_rows ok).shaped, ?_⟩
    walk_at "go"
    rw [any_none]
    cases an : rs.any Option.isNone with
    | false =>
      walk_at "go"
      refine g_newN (by simp) fun q hq => ?_
      have ed : due rs 0 hd more acc = (fault "TooManyOpen", rs) := by unfold due; rw [if_pos rfl, an]; rfl
      obtain ⟨k1, r1⟩ := hnew (o := .lst [.str "fault", .str "TooManyOpen"]) (Keep.refl _ _) hq R
      refine kQ _ _ k1 (by rw [ed]; exact r1) ?_
      rw [ed]
      exact .lst (SqL.of upd_same) (.cons (.str _) (.cons (.str _) .nil))
    | true =>
      have hf : rs.findIdx Option.isNone < rs.length := List.findIdx_lt_length.mpr (by simpa using an)
      have ed : due rs 0 hd more acc = (.list [.str "handle", .int ((rs.findIdx Option.isNone : Nat) : Int)], rs.set (rs.findIdx Option.isNone) (some (more, acc, 0))) := by unfold due; rw [if_pos rfl, an]; rfl
      walk_at "go"
      refine g_indexN R ok an ?_
      generalize rs.findIdx Option.isNone = j at hf ed
      walk_at "go"
      refine g_newN (by simp) fun q hq => ?_
      obtain ⟨k1, r1⟩ := hnew (o := .lst [.int more, .str acc, .int 0]) (Keep.refl _ _) hq R
      have nq : q ≠ p := (ne_of_none A2 hq).symm
      walk_at "go"
      refine g_setL (n := j) (xs := xs) (by walk_at "hp") (by omega) rfl ?_
      walk_at "go"
      refine g_newN (by simp) fun q2 hq2 => ?_
      have k2 := Keep.mut (o := .lst (xs.set j (.ref q))) k1 (show p ∈ [p] by simp)
      have r2 : RowsAt (upd (upd H q (.lst [.int more, .str acc, .int 0])) p (.lst (xs.set j (.ref q)))) p (rs.set j (some (more, acc, 0))) :=
        r1.set (by walk_at "hp") (Keep.mut (Keep.refl _ _) (by simp)) upd_same ⟨q, rfl, nq, by rw [upd_ne nq, upd_same]⟩
      obtain ⟨k3, r3⟩ := hnew (o := .lst [.str "handle", .int (j : Int)]) k2 hq2 r2
      refine kQ _ _ k3 (by rw [ed]; exact r3) ?_
      rw [ed]
      exact .lst (SqL.of upd_same) (.cons (.str _) (.cons (.int _) .nil))
  · walk_at "go"
    have bad : due rs kind hd more acc = (fault "BadHandle", rs) → ∀ q, H q = none → Q (.ref q) (upd H q (.lst [.str "fault", .str "BadHandle"])) := fun ed q hq => by
      obtain ⟨k1, r1⟩ := hnew (o := .lst [.str "fault", .str "BadHandle"]) (Keep.refl _ _) hq R
      refine kQ _ _ k1 (by rw [ed]; exact r1) ?_
      rw [ed]
      exact .lst (SqL.of upd_same) (.cons (.str _) (.cons (.str _) .nil))
    have no : look rs hd = none → due rs kind hd more acc = (fault "BadHandle", rs) := fun e => by unfold due; rw [if_neg c, e]
    refine g_it (fun c1 => ?_) (fun c1 => ?_)
    · walk_at "go"
      exact g_newN (by simp) (bad (no (look_no (by omega))))
    · walk_at "go"
      refine g_it (fun c2 => ?_) (fun c2 => ?_)
      · walk_at "go"
        exact g_newN (by simp) (bad (no (look_no (by omega))))
      · walk_at "go"
        have hk : hd.toNat < rs.length := by omega
        have e : look rs hd = rs[hd.toNat] := look_at (by omega) hk
        obtain ⟨v, ev, rv⟩ := R.at_ A2 hk
        refine g_ixL (n := hd.toNat) (by walk_at "sq") ev (by omega) ?_
        match er : rs[hd.toNat], rv with
        | none, rv =>
          cases (show v = V.non from rv)
          walk_at "go"
          exact g_newN (by simp) (bad (no (e.trans er)))
        | some (n, a, r), rv =>
          obtain ⟨q0, e0, n0, h0⟩ := rv
          subst e0
          have el := e.trans er
          have ed : due rs kind hd more acc = if (kind = 3 ∧ a = "write") ∨ (3 < kind ∧ a = "read") then (fault "BadHandle", rs)
            else if kind = 5 then (.list [.str "done", .int 0], rs.set hd.toNat (some (n, a, more)))
            else (.list [.str "file", rD (some (n, a, r))], if kind = 1 then rs.set hd.toNat none else rs) := by unfold due; rw [if_neg c, el]
          walk_at "go"
          refine g_ixL (n := hd.toNat) (by walk_at "sq") ev (by omega) ?_
          walk_at "go"
          intro q1 hq1
          obtain ⟨k1, r1⟩ := hnew (o := .lst [.int n, .str a, .int r]) (Keep.refl _ _) hq1 R
          have nq1 : q1 ≠ p := (ne_of_none A2 hq1).symm
          have bad1 : due rs kind hd more acc = (fault "BadHandle", rs) → ∀ q, upd H q1 (.lst [.int n, .str a, .int r]) q = none → Q (.ref q) (upd (upd H q1 (.lst [.int n, .str a, .int r])) q (.lst [.str "fault", .str "BadHandle"])) := fun ed q hq => by
            obtain ⟨k2, r2⟩ := hnew (o := .lst [.str "fault", .str "BadHandle"]) k1 hq r1
            refine kQ _ _ k2 (by rw [ed]; exact r2) ?_
            rw [ed]
            exact .lst (SqL.of upd_same) (.cons (.str _) (.cons (.str _) .nil))
          have file : ∀ {H2 : Hp} {rs' : List (Option Row)}, due rs kind hd more acc = (.list [.str "file", rD (some (n, a, r))], rs') → Keep [p] H H2 → RowsAt H2 p rs' → H2 q1 = some (.lst [.int n, .str a, .int r]) → ∀ q, H2 q = none → Q (.ref q) (upd H2 q (.lst [.str "file", .ref q1])) := fun ed k hr h1 q hq => by
            obtain ⟨k2, r2⟩ := hnew (o := .lst [.str "file", .ref q1]) k hq hr
            refine kQ _ _ k2 (by rw [ed]; exact r2) ?_
            rw [ed]
            exact .lst (SqL.of upd_same) (.cons (.str _) (.cons (.lst (SqL.of (at_upd (ne_of_none h1 hq) h1)) (.cons (.int _) (.cons (.str _) (.cons (.int _) .nil)))) .nil))
          have free : kind = 1 → ¬ ((kind = 3 ∧ a = "write") ∨ (3 < kind ∧ a = "read")) := by rintro z (⟨z1, _⟩ | ⟨z1, _⟩) <;> omega
          walk_at "go"
          refine g_it (fun c3 => ?_) (fun c3 => ?_)
          · walk_at "go"
            refine g_ixL (n := 1) (by walk_at "sq") rfl rfl ?_
            walk_at "go"
            refine g_it (fun c4 => ?_) (fun c4 => ?_)
            · walk_at "go"
              exact g_newN (by simp) (bad1 (by rw [ed, if_pos (.inl ⟨c3, c4⟩)]))
            · walk_at "go"
              rw [decide_eq_false (show ¬ (3 : Int) < kind by omega)]
              walk_at "go"
              rw [decide_eq_false (show ¬ kind = 1 by omega)]
              walk_at "go"
              rw [decide_eq_false (show ¬ kind = 5 by omega)]
              walk_at "go"
              refine g_newN (by simp) (file ?_ k1 r1 upd_same)
              rw [ed, if_neg (by rintro (⟨_, z⟩ | ⟨z, _⟩) <;> first | exact c4 z | omega), if_neg (by omega), if_neg (by omega)]
          · walk_at "go"
            refine g_it (fun c4 => ?_) (fun c4 => ?_)
            · walk_at "go"
              refine g_ixL (n := 1) (by walk_at "sq") rfl rfl ?_
              walk_at "go"
              refine g_it (fun c5 => ?_) (fun c5 => ?_)
              · walk_at "go"
                exact g_newN (by simp) (bad1 (by rw [ed, if_pos (.inr ⟨c4, c5⟩)]))
              · walk_at "go"
                rw [decide_eq_false (show ¬ kind = 1 by omega)]
                walk_at "go"
                have ed' := ed.trans (if_neg (by rintro (⟨z, _⟩ | ⟨_, z⟩) <;> first | exact c3 z | exact c5 z))
                refine g_it (fun c6 => ?_) (fun c6 => ?_)
                · rw [if_pos c6] at ed'
                  walk_at "go"
                  refine g_ixL (n := 0) (by walk_at "sq") rfl rfl ?_
                  walk_at "go"
                  refine g_ixL (n := 1) (by walk_at "sq") rfl rfl ?_
                  walk_at "go"
                  refine g_newN (by simp) fun q2 hq2 => ?_
                  walk_at "go"
                  refine g_setL (n := hd.toNat) (xs := xs) (by walk_at "hp") (by omega) (by omega) ?_
                  walk_at "go"
                  refine g_newN (by simp) fun q3 hq3 => ?_
                  obtain ⟨k2, r2⟩ := hnew (o := .lst [.int n, .str a, .int more]) k1 hq2 r1
                  have nq2 : q2 ≠ p := (ne_of_none A2 (fr1 hq2)).symm
                  have k3 := Keep.mut (o := .lst (xs.set hd.toNat (.ref q2))) k2 (show p ∈ [p] by simp)
                  have r3 := r2.set (v := .ref q2) (r := some (n, a, more)) (k := hd.toNat) (xs := xs) (by walk_at "hp") (Keep.mut (o := .lst (xs.set hd.toNat (.ref q2))) (Keep.refl _ _) (show p ∈ [p] by simp)) upd_same ⟨q2, rfl, nq2, by rw [upd_ne nq2, upd_same]⟩
                  obtain ⟨k4, r4⟩ := hnew (o := .lst [.str "done", .int 0]) k3 hq3 r3
                  refine kQ _ _ k4 (by rw [ed']; exact r4) ?_
                  rw [ed']
                  exact .lst (SqL.of upd_same) (.cons (.str _) (.cons (.int _) .nil))
                · rw [if_neg c6, if_neg (by omega)] at ed'
                  walk_at "go"
                  exact g_newN (by simp) (file ed' k1 r1 upd_same)
            · walk_at "go"
              have ed' := ed.trans (if_neg (by rintro (⟨z, _⟩ | ⟨z, _⟩) <;> first | exact c3 z | exact c4 z))
              rw [if_neg (by omega)] at ed'
              refine g_it (fun c5 => ?_) (fun c5 => ?_)
              · rw [if_pos c5] at ed'
                walk_at "go"
                refine g_setL (n := hd.toNat) (xs := xs) (by walk_at "hp") (by omega) (by omega) ?_
                walk_at "go"
                rw [decide_eq_false (show ¬ kind = 5 by omega)]
                walk_at "go"
                refine g_newN (by simp) (file ed' (k1.mut (by simp)) (r1.set (v := .non) (r := none) (k := hd.toNat) (xs := xs) (by walk_at "hp") (Keep.mut (Keep.refl _ _) (show p ∈ [p] by simp)) upd_same rfl) (by rw [upd_ne nq1, upd_same]))
              · rw [if_neg c5] at ed'
                walk_at "go"
                rw [decide_eq_false (show ¬ kind = 5 by omega)]
                walk_at "go"
                exact g_newN (by simp) (file ed' k1 r1 upd_same)
open PySem PySem.Spec L2
/-! ### what is told -/
/-- what the head must say of the two errors -/
structure F61 (K : Frag) : Prop where
  mb : PySem.W.exmOne K (.ref (He.ga K "BadHandle")) (.ref (He.ga K "SegmentError")) = some true
  mt : PySem.W.exmOne K (.ref (He.ga K "TooManyOpen")) (.ref (He.ga K "SegmentError")) = some true
  cb : ExcC K (He.ga K "BadHandle")
  ct : ExcC K (He.ga K "TooManyOpen")
  bb : PySem.W.kitOne K (.ref (He.ga K "BadHandle")) (.ref (He.ga K "BadHandle")) = some true
  bt : PySem.W.kitOne K (.ref (He.ga K "BadHandle")) (.ref (He.ga K "TooManyOpen")) = some false
  tb : PySem.W.kitOne K (.ref (He.ga K "TooManyOpen")) (.ref (He.ga K "BadHandle")) = some false
  tt : PySem.W.kitOne K (.ref (He.ga K "TooManyOpen")) (.ref (He.ga K "TooManyOpen")) = some true
/-- all stays but the list of files and the files -/
def Chg (l : Addr) (fs : List (Option Fl)) (H H' : Hp) : Prop := ∀ b o, H b = some o → b ≠ l → (∀ (i : Nat) f, fs[i]? = some (some f) → b ≠ f.p) → H' b = some o
theorem Chg.l {l : Addr} {fs : List (Option Fl)} {H H' : Hp} (k : Keep [l] H H') : Chg l fs H H' := fun b o e n _ => k b o e (nm1 n)
theorem Chg.f {l : Addr} {fs : List (Option Fl)} {H H' : Hp} {i : Nat} {f : Fl} (e : fs[i]? = some (some f)) (k : Keep [f.p] H H') : Chg l fs H H' := fun b o h _ n => k b o h (nm1 (n i f e))
theorem Chg.same {l : Addr} {fs : List (Option Fl)} {H H1 H' : Hp} (c : Chg l fs H H1) (s : Same H1 H') : Chg l fs H H' := fun b o h n m => s b o (c b o h n m)
/-- a file that is held was held, or is new -/
def Own (fs fs' : List (Option Fl)) (H : Hp) : Prop := ∀ (i : Nat) f, fs'[i]? = some (some f) → (∃ (j : Nat) (g : Fl), fs[j]? = some (some g) ∧ g.p = f.p) ∨ H f.p = none
theorem Own.refl {fs : List (Option Fl)} {H : Hp} : Own fs fs H := fun i f e => .inl ⟨i, f, e, rfl⟩
theorem Own.set {fs : List (Option Fl)} {H : Hp} {k : Nat} {o : Option Fl} (h : ∀ f, o = some f → (∃ (j : Nat) (g : Fl), fs[j]? = some (some g) ∧ g.p = f.p) ∨ H f.p = none) : Own fs (fs.set k o) H := fun i f e => by
  rw [List.getElem?_set] at e
  split at e
  · split at e
    · exact h f (Option.some.inj e)
    · cases e
  · exact .inl ⟨i, f, e, rfl⟩
theorem same_new {H : Hp} {p : Addr} {o : HO} (n : H p = none) : Same H (upd H p o) := fun b u e => at_upd (ne_of_none e n) e
theorem same_new2 {H : Hp} {p q : Addr} {o u : HO} (n : H p = none) (m : upd H p o q = none) : Same H (upd (upd H p o) q u) := fun b z e => at_upd (ne_of_none (at_upd (ne_of_none e n) e) m) (at_upd (ne_of_none e n) e)
theorem look_map {α β : Type} {f : α → β} {rs : List (Option α)} {k : Int} : look (rs.map (Option.map f)) k = (look rs k).map f := by
  unfold look
  split
  · rw [List.getElem?_map]
    cases rs[k.toNat]? with
    | none => rfl
    | some o => rfl
  · rfl
theorem look_rows {fs : List (Option Fl)} {k : Int} : look (rows fs) k = (look fs k).map Fl.row := look_map
theorem first_none {fs : List (Option Fl)} {k : Nat} (hk : fs[k]? = some none) (no : ∀ i < k, fs[i]? ≠ some none) : (rows fs).findIdx Option.isNone = k ∧ (rows fs).any Option.isNone = true := by
  have hl : k < fs.length := (List.getElem?_eq_some_iff.mp hk).1
  have hl' : k < (rows fs).length := by rw [rows_len]; exact hl
  have e : ∀ i, (rows fs)[i]? = (fs[i]?).map (Option.map Fl.row) := fun i => by unfold rows; rw [List.getElem?_map]
  have f : (rows fs).findIdx Option.isNone = k := by
    rw [List.findIdx_eq hl']
    refine ⟨?_, fun j hj => ?_⟩
    · have := e k
      rw [hk, List.getElem?_eq_getElem hl'] at this
      rw [Option.some.inj this]
      rfl
    · have := e j
      rw [List.getElem?_eq_getElem (by omega)] at this
      cases ej : fs[j]? with
      | none => rw [ej] at this; cases this
      | some o =>
        cases o with
        | none => exact absurd ej (no j hj)
        | some g =>
          rw [ej] at this
          rw [Option.some.inj this]
          rfl
  refine ⟨f, ?_⟩
  have := List.findIdx_lt_length (xs := rows fs) (p := Option.isNone)
  rw [f] at this
  rw [List.any_eq_true]
  exact this.mp hl'
theorem no_none {fs : List (Option Fl)} (h : fs.length = 16) (no : ∀ i < 16, fs[i]? ≠ some none) : (rows fs).any Option.isNone = false := by
  rw [List.any_eq_false]
  intro r hr
  obtain ⟨o, ho, rfl⟩ := List.mem_map.mp hr
  obtain ⟨i, hi, e⟩ := List.mem_iff_getElem.mp ho
  cases o with
  | none => exact absurd (by rw [List.getElem?_eq_getElem hi, e]) (no i (by omega))
  | some f => intro z; cases z
def sp__law_told (K : Frag) : Sp := fun vs H Q _ => ∃ (h dh l : Addr) (fs : List (Option Fl)) (kind hd more : Int) (acc : Str), vs = [.ref h, .int kind, .int hd, .int more, .str acc] ∧ Hands K H h dh l fs ∧ 0 ≤ kind ∧ kind < 6 ∧
  ∀ (q : Addr) (a : Str) (b : V) (d : PyData) (fs' : List (Option Fl)) H', Chg l fs H H' → Hands K H' h dh l fs' → Own fs fs' H → due (rows fs) kind hd more acc = (.list [.str a, d], rows fs') → H' q = some (.lst [.str a, b]) → H q = none → (∀ H4, (∀ b o, H' b = some o → H b = none → H4 b = some o) → Dp K H4 b d) →
    (a = "handle" → ∃ i, b = .int i) → Q (.ref q) H'
abbrev N__law_told : List Str := ["_law_handles", "_law_kind", "_law_handle", "_law_more", "_law_access", "e", "_law_names"]
def t__law_told (K : Frag) (E : XK) : TS :=
  (tTryAs K (V2 (He.ga K "SegmentError")) 5 (fun a cls d => (tSeq (tAsg (tC (V.str "")) (gName 6)) (tSeq (tIfS (tB (tCB (rIsX K a cls d) (tCons (tVar 5) (tCons (tC (V.ref (He.ga K "BadHandle"))) tNil)))) (tAsg (tOp rAddSt (tVar 6) (tC (V.str "BadHandle"))) (gName 6)) tNext) (tSeq (tIfS (tB (tCB (rIsX K a cls d) (tCons (tVar 5) (tCons (tC (V.ref (He.ga K "TooManyOpen"))) tNil)))) (tAsg (tOp rAddSt (tVar 6) (tC (V.str "TooManyOpen"))) (gName 6)) tNext) (tRet (tLst (tCons (tC (V.str "fault")) (tCons (tVar 6) tNil)))))))) (WD E) (fun W => (tSeq (tIfS (tTest (tOp rEq (tVar 1) (tC (V.int 0)))) (tRet (tLst (tCons (tC (V.str "handle")) (tCons (tMethG (He.ga K "Handles") ("acquire" : Str) (sp_Handles_acquire K) [] W (tVar 0) (tCons (tVar 3) (tCons (tVar 4) tNil))) tNil)))) tNext) (tSeq (tIfS (tTest (tOp rEq (tVar 1) (tC (V.int 1)))) (tRet (tLst (tCons (tC (V.str "file")) (tCons (tCallG (sp__law_fields K) [] W (tCons (tMethG (He.ga K "Handles") ("free" : Str) (sp_Handles_free K) [] W (tVar 0) (tCons (tVar 2) tNil)) tNil)) tNil)))) tNext) (tSeq (tIfS (tTest (tOp rEq (tVar 1) (tC (V.int 2)))) (tRet (tLst (tCons (tC (V.str "file")) (tCons (tCallG (sp__law_fields K) [] W (tCons (tMethG (He.ga K "Handles") ("get" : Str) (sp_Handles_get K) [] W (tVar 0) (tCons (tVar 2) tNil)) tNil)) tNil)))) tNext) (tSeq (tIfS (tTest (tOp rEq (tVar 1) (tC (V.int 3)))) (tRet (tLst (tCons (tC (V.str "file")) (tCons (tCallG (sp__law_fields K) [] W (tCons (tMethG (He.ga K "Handles") ("reading" : Str) (sp_Handles_reading K) [] W (tVar 0) (tCons (tVar 2) tNil)) tNil)) tNil)))) tNext) (tSeq (tIfS (tTest (tOp rEq (tVar 1) (tC (V.int 4)))) (tRet (tLst (tCons (tC (V.str "file")) (tCons (tCallG (sp__law_fields K) [] W (tCons (tMethG (He.ga K "Handles") ("writing" : Str) (sp_Handles_writing K) [] W (tVar 0) (tCons (tVar 2) tNil)) tNil)) tNil)))) tNext) (tSeq (tDrop (tMethG (He.ga K "Handles") ("reserve" : Str) (sp_Handles_reserve K) [] W (tVar 0) (tCons (tVar 2) (tCons (tVar 3) tNil)))) (tRet (tLst (tCons (tC (V.str "done")) (tCons (tC (V.int 0)) tNil))))))))))))
theorem len__law_told {K : Frag} {vs : List V} {H : Hp} {Q : VK} {E : XK} : sp__law_told K vs H Q E → vs.length = (["_law_handles", "_law_kind", "_law_handle", "_law_more", "_law_access"] : List Str).length := by walk_at "len"
theorem pure__law_told {K : Frag} (F : F61 K) {vs : List V} {H : Hp} {Q : VK} {E : XK} (h : sp__law_told K vs H Q E) : t__law_told K E { nx := fun _ H' => Q .non H', rt := Q } (start N__law_told vs) H := by
  obtain ⟨h, dh, l, fs, kind, hd, more, acc, rfl, A, k0, k6, kQ⟩ := h
  have A1 := A.obj
  have A2 := A.lst
  have l16 := A.len
  unfold t__law_told
  refine g_try ?_
  generalize hW : wAs K (V2 (He.ga K "SegmentError")) 5 _ _ _ = W
  have hb : due (rows fs) kind hd more acc = (fault "BadHandle", rows fs) → W (.ref (He.ga K "BadHandle")) none (start N__law_told [.ref h, .int kind, .int hd, .int more, .str acc]) H := by
    intro ed
    rw [← hW]
    refine g_caught F.mb fun a na => ?_
    walk_at "go"
    refine g_isX F.cb F.bb ?_
    walk_at "go"
    refine g_addSt (by decide) ?_
    walk_at "go"
    refine g_isX F.cb F.bt ?_
    walk_at "go"
    refine g_newN (by simp) fun q nq => ?_
    exact kQ q _ _ _ fs _ (Chg.same (Chg.l (Keep.refl _ _)) (same_new nq)) (A.keep (same_new nq)) Own.refl ed upd_same nq (fun _ _ => .str _) (fun z => by cases z)
  have ht : due (rows fs) kind hd more acc = (fault "TooManyOpen", rows fs) → W (.ref (He.ga K "TooManyOpen")) none (start N__law_told [.ref h, .int kind, .int hd, .int more, .str acc]) H := by
    intro ed
    rw [← hW]
    refine g_caught F.mt fun a na => ?_
    walk_at "go"
    refine g_isX F.ct F.tb ?_
    walk_at "go"
    refine g_isX F.ct F.tt ?_
    walk_at "go"
    refine g_addSt (by decide) ?_
    walk_at "go"
    refine g_newN (by simp) fun q nq => ?_
    exact kQ q _ _ _ fs _ (Chg.same (Chg.l (Keep.refl _ _)) (same_new nq)) (A.keep (same_new nq)) Own.refl ed upd_same nq (fun _ _ => .str _) (fun z => by cases z)
  clear hW
  have file : ∀ {H1 : Hp} {fs' : List (Option Fl)} {f : Fl}, due (rows fs) kind hd more acc = (.list [.str "file", rD (some f.row)], rows fs') → Chg l fs H H1 → Hands K H1 h dh l fs' → Own fs fs' H → (∀ b, H1 b = none → H b = none) → H1 f.p = some (oFl K f) →
      ∀ q1, H1 q1 = none → ∀ q, upd H1 q1 (.lst [.int f.n, .str f.acc, .int f.r]) q = none → Q (.ref q) (upd (upd H1 q1 (.lst [.int f.n, .str f.acc, .int f.r])) q (.lst [.str "file", .ref q1])) := by
    intro H1 fs' f ed c A' ow fr hf q1 n1 q n2
    refine kQ q "file" (.ref q1) _ fs' _ (c.same (same_new2 n1 n2)) (A'.keep (same_new2 n1 n2)) ow ed upd_same (fr _ (fr1 n2)) ?_ (fun z => by cases z)
    intro H4 k4
    exact .lst (SqL.of (k4 _ _ (at_upd (nu1 n2).symm upd_same) (fr _ n1))) (.cons (.int _) (.cons (.str _) (.cons (.int _) .nil)))
  have dn : ¬ kind = 0 → look fs hd = none → due (rows fs) kind hd more acc = (fault "BadHandle", rows fs) := fun c e => by
    unfold due; rw [if_neg c, look_rows, e]; rfl
  have ds : ∀ f, ¬ kind = 0 → look fs hd = some f → due (rows fs) kind hd more acc = if (kind = 3 ∧ f.acc = "write") ∨ (3 < kind ∧ f.acc = "read") then (fault "BadHandle", rows fs)
      else if kind = 5 then (.list [.str "done", .int 0], (rows fs).set hd.toNat (some (f.n, f.acc, more)))
      else (.list [.str "file", rD (some f.row)], if kind = 1 then (rows fs).set hd.toNat none else rows fs) := fun f c e => by
    unfold due; rw [if_neg c, look_rows, e]; rfl
  have fr0 : ∀ {m : Addr} {o : HO} {H1 : Hp}, Keep [m] H H1 → H1 m = some o → ∀ b, H1 b = none → H b = none := by
    intro m o H1 k hm b hb
    cases e : H b with
    | none => rfl
    | some u =>
      by_cases c : b = m
      · subst c; rw [hm] at hb; cases hb
      · rw [k b u e (nm1 c)] at hb; cases hb
  walk_at "go"
  refine g_it (fun c => ?_) (fun c => ?_)
  · subst c
    walk_at "go"
    refine ⟨h, dh, l, fs, more, acc, rfl, A, fun no => ?_, fun k p d H1 hk e no kp np A' => ?_⟩
    · exact ht (by unfold due; rw [if_pos rfl, no_none l16 no]; rfl)
    · walk_at "go"
      refine g_newN (by simp) fun q nq => ?_
      obtain ⟨f1, f2⟩ := first_none e no
      refine kQ q "handle" (.int (k : Int)) (.int (k : Int)) _ _ ((Chg.l kp).same (same_new nq)) (A'.keep (same_new nq)) (Own.set fun f ef => by cases ef; exact .inr np) ?_ upd_same (fr0 kp A'.lst _ nq) (fun _ _ => .int _) (fun _ => ⟨_, rfl⟩)
      unfold due
      rw [if_pos rfl, f2, if_pos rfl, f1, rows_set]
      rfl
  · walk_at "go"
    refine g_it (fun c1 => ?_) (fun c1 => ?_)
    · walk_at "go"
      refine ⟨h, dh, l, fs, hd, rfl, A, fun e => hb (dn c e), fun f H1 e kp A' hf => ?_⟩
      walk_at "go"
      refine ⟨f.p, f, rfl, hf, fun q1 n1 => ?_⟩
      walk_at "go"
      refine g_newN (by simp) (file (fs' := fs.set hd.toNat none) ?_ (Chg.l kp) A' (Own.set fun f ef => by cases ef) (fr0 kp A'.lst) hf q1 n1)
      rw [ds f c e, if_neg (by rintro (⟨z, _⟩ | ⟨z, _⟩) <;> omega), if_neg (by omega), if_pos c1, rows_set]
      rfl
    · walk_at "go"
      have same : ∀ f, look fs hd = some f → ¬ ((kind = 3 ∧ f.acc = "write") ∨ (3 < kind ∧ f.acc = "read")) → ¬ kind = 5 → ∀ q1, H q1 = none → ∀ q, upd H q1 (.lst [.int f.n, .str f.acc, .int f.r]) q = none → Q (.ref q) (upd (upd H q1 (.lst [.int f.n, .str f.acc, .int f.r])) q (.lst [.str "file", .ref q1])) := fun f e n1 n2 =>
        file (fs' := fs) (by rw [ds f c e, if_neg n1, if_neg n2, if_neg c1]) (Chg.l (Keep.refl _ _)) A Own.refl (fun _ e => e) (A.at_ _ _ (look_at_ e).2.2)
      refine g_it (fun c2 => ?_) (fun c2 => ?_)
      · walk_at "go"
        refine ⟨h, dh, l, fs, hd, rfl, A, fun e => hb (dn c e), fun f e => ?_⟩
        walk_at "go"
        refine ⟨f.p, f, rfl, A.at_ _ _ (look_at_ e).2.2, fun q1 n1 => ?_⟩
        walk_at "go"
        exact g_newN (by simp) (same f e (by rintro (⟨z, _⟩ | ⟨z, _⟩) <;> omega) (by omega) q1 n1)
      · walk_at "go"
        refine g_it (fun c3 => ?_) (fun c3 => ?_)
        · walk_at "go"
          refine ⟨h, dh, l, fs, hd, rfl, A, fun e => hb ?_, fun f e na => ?_⟩
          · rcases e with e | ⟨f, e, ea⟩
            · exact dn c e
            · rw [ds f c e, if_pos (.inl ⟨c3, ea⟩)]
          walk_at "go"
          refine ⟨f.p, f, rfl, A.at_ _ _ (look_at_ e).2.2, fun q1 n1 => ?_⟩
          walk_at "go"
          exact g_newN (by simp) (same f e (by rintro (⟨_, z⟩ | ⟨z, _⟩) <;> first | exact na z | omega) (by omega) q1 n1)
        · walk_at "go"
          refine g_it (fun c4 => ?_) (fun c4 => ?_)
          · walk_at "go"
            refine ⟨h, dh, l, fs, hd, rfl, A, fun e => hb ?_, fun f e na => ?_⟩
            · rcases e with e | ⟨f, e, ea⟩
              · exact dn c e
              · rw [ds f c e, if_pos (.inr ⟨by omega, ea⟩)]
            walk_at "go"
            refine ⟨f.p, f, rfl, A.at_ _ _ (look_at_ e).2.2, fun q1 n1 => ?_⟩
            walk_at "go"
            exact g_newN (by simp) (same f e (by rintro (⟨z, _⟩ | ⟨_, z⟩) <;> first | exact na z | omega) (by omega) q1 n1)
          · walk_at "go"
            refine ⟨h, dh, l, fs, hd, more, rfl, A, fun e => hb ?_, fun f H1 e na kp A' => ?_⟩
            · rcases e with e | ⟨f, e, ea⟩
              · exact dn c e
              · rw [ds f c e, if_pos (.inr ⟨by omega, ea⟩)]
            walk_at "go"
            refine g_newN (by simp) fun q nq => ?_
            have ef := (look_at_ e).2.2
            have hk : hd.toNat < fs.length := (List.getElem?_eq_some_iff.mp ef).1
            refine kQ q "done" (.int 0) (.int 0) _ _ ((Chg.f ef kp).same (same_new nq)) (A'.keep (same_new nq)) (Own.set fun g eg => by cases eg; exact .inl ⟨_, f, ef, rfl⟩) ?_ upd_same (fr0 kp (A'.at_ hd.toNat ⟨f.p, f.d, f.n, f.acc, more⟩ (by rw [List.getElem?_set, if_pos rfl, if_pos hk])) _ nq) (fun _ _ => .int _) (fun z => by cases z)
            rw [ds f c e, if_neg (by rintro (⟨z, _⟩ | ⟨_, z⟩) <;> first | exact na z | omega), if_pos (by omega), rows_set]
            rfl
open PySem PySem.Spec L2
/-! ### the law -/
theorem same_new3 {H : Hp} {p q r : Addr} {o u w : HO} (n : H p = none) (m : upd H p o q = none) (k : upd (upd H p o) q u r = none) : Same H (upd (upd (upd H p o) q u) r w) := fun b z e => at_upd (ne_of_none (same_new2 n m b z e) k) (same_new2 n m b z e)
structure LI (K : Frag) (H0 H : Hp) (h dh l p : Addr) (fs : List (Option Fl)) : Prop where
  same : Same H0 H
  A : Hands K H h dh l fs
  R : RowsAt H p (rows fs)
  ok : Okay (rows fs)
  pl : p ≠ l
  np : H0 p = none
  nl : H0 l = none
  nf : ∀ (i : Nat) f, fs[i]? = some (some f) → H0 f.p = none
theorem LI.keep {K : Frag} {H0 H H' : Hp} {h dh l p : Addr} {fs : List (Option Fl)} (L : LI K H0 H h dh l p fs) (s : Same H H') : LI K H0 H' h dh l p fs :=
  ⟨fun b o e => s b o (L.same b o e), L.A.keep s, L.R.keep s, L.ok, L.pl, L.np, L.nl, L.nf⟩
theorem okay_none : Okay (rows (List.replicate 16 none)) := by
  intro r hr
  obtain ⟨o, ho, e⟩ := List.mem_map.mp hr
  rw [(List.mem_replicate.mp ho).2] at e
  cases e
theorem row_dp {n r : Int} {a : Str} {K : Frag} {H : Hp} {p : Addr} (h : H p = some (.lst [.int n, .str a, .int r])) : Dp K H (.ref p) (.list [.int n, .str a, .int r]) := .lst (SqL.of h) (.cons (.int _) (.cons (.str _) (.cons (.int _) .nil)))
def sp_law (K : Frag) : Sp := fun vs H Q _ => ∃ (a : Addr) (ns : List Int), vs = [.ref a] ∧ SqL K H a (ns.map V.int) ∧ ∀ H', Q (.bl true) H'
abbrev N_law : List Str := ["_law_script", "_law_number", "_law_handles", "_law_rows_here", "_law_bias", "_law_k", "_law_kind", "_law_rest", "_law_handle", "_law_more", "_law_access", "_law_left", "_law_known", "_law_told_here", "_law_file"]
def t_law (K : Frag) (E : XK) : TS :=
  (tSeq (tAsg (tCallG (sp__law_row K) [] (WD E) (tCons (tVar 0) (tCons (tC (V.int 0)) tNil))) (gName 1)) (tSeq (tAsg (tMakeG (He.ga K "Handles") (sp_Handles___init__ K) [] (WD E) tNil) (gName 2)) (tSeq (tAsg (tOp rRep (tLst (tCons (tC V.non) tNil)) (tC (V.int 16))) (gName 3)) (tSeq (tIfS (tOr (tTest (tOp rNe (tC (V.int 16)) (tC (V.int 16)))) (tNot (tB (tCallG (sp__law_agrees K) [] (WD E) (tCons (tVar 2) (tCons (tVar 3) tNil)))))) (tRet (tC (V.bl false))) tNext) (tSeq (tAsg (tOp (rI (fun _ j => 0 < j) fun i j => V.int (i % j)) (tCB rInt (tCons (tVar 1) tNil)) (tC (V.int 3))) (gName 4)) (tSeq (tFor (iRng1 (tCons (tC (V.int 60)) tNil)) (gName 5) (tSeq (tAsg (tCallG (sp__law_row K) [] (WD E) (tCons (tVar 0) (tCons (tOp (rI0 fun i j => V.int (i + j)) (tC (V.int 1)) (tVar 5)) tNil))) (gName 1)) (tSeq (tAsg (tOp (rI (fun _ j => 0 < j) fun i j => V.int (i % j)) (tCB rInt (tCons (tVar 1) tNil)) (tC (V.int 6))) (gName 6)) (tSeq (tAsg (tOp (rI CDiv fun i j => V.int (i / j)) (tCB rInt (tCons (tVar 1) tNil)) (tC (V.int 6))) (gName 7)) (tCutG (tIfS (tTest (tOp (rI0 fun i j => V.bl (decide (i < j))) (tOp (rI (fun _ j => 0 < j) fun i j => V.int (i % j)) (tVar 7) (tC (V.int 4))) (tVar 4))) (tAsg (tC (V.int 0)) (gName 6)) tNext) (tSeq (tAsg (tOp (rIxL K) (tLst (tCons (tOp (rI (fun _ j => 0 < j) fun i j => V.int (i % j)) (tOp (rI CDiv fun i j => V.int (i / j)) (tVar 7) (tC (V.int 4))) (tC (V.int 16))) (tCons (tOp (rI (fun _ j => 0 < j) fun i j => V.int (i % j)) (tOp (rI CDiv fun i j => V.int (i / j)) (tVar 7) (tC (V.int 4))) (tC (V.int 16))) (tCons (tOp (rI0 fun i j => V.int (i - j)) (tOp (rI (fun _ j => 0 < j) fun i j => V.int (i % j)) (tOp (rI CDiv fun i j => V.int (i / j)) (tVar 7) (tC (V.int 4))) (tC (V.int 22))) (tC (V.int 3))) (tCons (tOp (rI CDiv fun i j => V.int (i / j)) (tVar 7) (tC (V.int 4))) tNil))))) (tOp (rI (fun _ j => 0 < j) fun i j => V.int (i % j)) (tOp (rI CDiv fun i j => V.int (i / j)) (tVar 7) (tC (V.int 352))) (tC (V.int 4)))) (gName 8)) (tSeq (tAsg (tOp (rI0 fun i j => V.int (i + j)) (tC (V.int 1)) (tOp (rI (fun _ j => 0 < j) fun i j => V.int (i % j)) (tOp (rI CDiv fun i j => V.int (i / j)) (tVar 7) (tC (V.int 5))) (tOp (rIxL K) (tLst (tCons (tC (V.int 6)) (tCons (tC (V.int 65535)) tNil))) (tOp (rI (fun _ j => 0 < j) fun i j => V.int (i % j)) (tOp (rI CDiv fun i j => V.int (i / j)) (tVar 7) (tC (V.int 30))) (tC (V.int 2)))))) (gName 9)) (tSeq (tAsg (tOp (rIxL K) (tLst (tCons (tC (V.str "read")) (tCons (tC (V.str "write")) (tCons (tC (V.str "both")) tNil)))) (tOp (rI (fun _ j => 0 < j) fun i j => V.int (i % j)) (tOp (rI CDiv fun i j => V.int (i / j)) (tVar 7) (tC (V.int 7))) (tC (V.int 3)))) (gName 10)) (tCutG (tAsg (tC V.non) (gName 11)) (tSeq (tAsg (tCallG (sp__law_copy K) [] (WD E) (tCons (tVar 3) tNil)) (gName 12)) (tCutG (tIfS (tTest (tOp rEq (tOp (rI (fun _ j => 0 < j) fun i j => V.int (i % j)) (tVar 7) (tC (V.int 13))) (tC (V.int 5)))) (tSeq (tAsg (tVar 2) (gName 11)) (tAsg (tMethG (He.ga K "Handles") ("fork" : Str) (sp_Handles_fork K) [] (WD E) (tVar 11) tNil) (gName 2))) tNext) (tSeq (tAsg (tCallG (sp__law_told K) [] (WD E) (tCons (tVar 2) (tCons (tVar 6) (tCons (tVar 8) (tCons (tVar 9) (tCons (tVar 10) tNil)))))) (gName 13)) (tSeq (tIfS (tOr (tTest (tOp (rNeD K) (tVar 13) (tCallG (sp__law_due K) [] (WD E) (tCons (tVar 3) (tCons (tVar 6) (tCons (tVar 8) (tCons (tVar 9) (tCons (tVar 10) tNil)))))))) (tNot (tB (tCallG (sp__law_agrees K) [] (WD E) (tCons (tVar 2) (tCons (tVar 3) tNil)))))) (tRet (tC (V.bl false))) tNext) (tCutG (tIfS (tAnd (tTest (tOp rEq (tVar 6) (tC (V.int 0)))) (tAnd (tTest (tOp rEq (tOp (rIxL K) (tVar 13) (tC (V.int 0))) (tC (V.str "handle")))) (tNot (tB (tCallG (sp__law_is_integer K) [] (WD E) (tCons (tOp (rIxL K) (tVar 13) (tC (V.int 1))) tNil)))))) (tRet (tC (V.bl false))) tNext) (tIfS (tAnd (tTest (tOp rNotN (tVar 11) (tC V.non))) (tNot (tB (tCallG (sp__law_agrees K) [] (WD E) (tCons (tVar 11) (tCons (tVar 12) tNil)))))) (tRet (tC (V.bl false))) tNext))))))))))))))) (tSeq (tAsg (tMakeG (He.ga K "OpenFile") (sp_OpenFile___init__ K) [V.int 0] (WD E) (tCons (tC (V.int 7)) (tCons (tC (V.str "both")) tNil))) (gName 14)) (tRet (tAndV (tOp (rEqD K) (tCallG (sp__law_fields K) [] (WD E) (tCons (tVar 14) tNil)) (tLst (tCons (tC (V.int 7)) (tCons (tC (V.str "both")) (tCons (tC (V.int 0)) tNil))))) (tOp (rEqD K) (tCallG (sp__law_fields K) [] (WD E) (tCons (tMakeG (He.ga K "OpenFile") (sp_OpenFile___init__ K) [] (WD E) (tCons (tC (V.int 1)) (tCons (tC (V.str "read")) (tCons (tC (V.int 5)) tNil)))) tNil)) (tLst (tCons (tC (V.int 1)) (tCons (tC (V.str "read")) (tCons (tC (V.int 5)) tNil))))))))))))))
theorem len_law {K : Frag} {vs : List V} {H : Hp} {Q : VK} {E : XK} : sp_law K vs H Q E → vs.length = (["_law_script"] : List Str).length := by walk_at "len"
theorem pure_law {K : Frag} {vs : List V} {H : Hp} {Q : VK} {E : XK} (h : sp_law K vs H Q E) : t_law K E { nx := fun _ H' => Q .non H', rt := Q } (start N_law vs) H := by
  obtain ⟨a, ns, rfl, hS, kQ⟩ := h
  unfold t_law
  walk_at "go"
  refine ⟨a, ns, 0, rfl, hS, by omega, fun n0 hn0 => ?_⟩
  walk_at "go"
  intro h dh nh ndh ne
  refine ⟨h, dh, rfl, upd_same, fun H1 l kp nl A => ⟨rfl, ?_⟩⟩
  have S1 : Same H H1 := fun b o e => kp b o (by walk_at "hp") (nm1 (ne_of_none e nh))
  walk_at "go"
  refine g_newN (by decide) fun p1 hp1 => ?_
  walk_at "go"
  refine g_rep1 (by walk_at "hp") (by omega) (by omega) fun p hp => ?_
  walk_at "go"
  have S12 : Same H1 _ := same_new2 (o := .lst [.non]) (u := .lst (List.replicate (Int.toNat 16) .non)) hp1 hp
  have pn : H1 p = none := fr1 hp
  have L0 : LI K H (upd (upd H1 p1 (.lst [.non])) p (.lst (List.replicate (Int.toNat 16) .non))) h dh l p (List.replicate 16 none) := by
    refine ⟨fun b o e => S12 b o (S1 b o e), A.keep S12, ⟨List.replicate 16 .non, upd_same, by simp [rows], fun i v r e1 e2 => ?_⟩, okay_none, (ne_of_none A.lst pn).symm, S1.free pn, fr2 nl, fun i f e => ?_⟩
    · unfold rows at e2
      rw [List.getElem?_map, List.getElem?_replicate] at e2
      rw [List.getElem?_replicate] at e1
      split at e1
      · rename_i c
        rw [if_pos c] at e2
        cases e1
        cases e2
        rfl
      · cases e1
    · rw [List.getElem?_replicate] at e
      split at e <;> cases e
  generalize upd (upd H1 p1 (.lst [.non])) p (.lst (List.replicate (Int.toNat 16) .non)) = H2 at L0
  generalize List.replicate 16 none = fs at L0
  refine g_itF ?_
  walk_at "go"
  refine ⟨h, dh, l, p, fs, rfl, L0.A, L0.R, L0.ok, fun H3 S3 => ?_⟩
  have L := L0.keep S3
  clear L0 S3 S12 pn hp hp1 A S1 kp nl nh ndh ne
  walk_at "go"
  generalize n0 % 3 = bias
  refine l_rng1 (fun i σ H' => ∃ h dh l p fs, LI K H H' h dh l p fs ∧ ∃ n : Int, ∃ v5 v6 v7 v8 v9 v10 v11 v12 v13 v14, σ = [some (.ref a), some (.int n), some (.ref h), some (.ref p), some (.int bias), v5, v6, v7, v8, v9, v10, v11, v12, v13, v14]) (by omega)
    ⟨h, dh, l, p, fs, L, n0, none, none, none, none, none, none, none, none, none, none, rfl⟩ ?_ ?_
  · clear L h dh l p fs hn0 n0 H3
    rintro i σ H' hi ⟨h, dh, l, p, fs, L, n, v5, v6, v7, v8, v9, v10, v11, v12, v13, v14, rfl⟩
    have hS' := Same.seq L.same hS
    walk_at "go"
    refine ⟨a, ns, 1 + (i : Int), rfl, hS', by omega, fun n hn => ?_⟩
    walk_at "go"
    have k6 : 0 ≤ n % 6 ∧ n % 6 < 6 := by omega
    generalize n % 6 = kind at k6
    have r0 : 0 ≤ n / 6 := by omega
    generalize n / 6 = rest at r0
    refine g_cut (fun σ H1 => H1 = H' ∧ ∃ kind : Int, 0 ≤ kind ∧ kind < 6 ∧ σ = [some (.ref a), some (.int n), some (.ref h), some (.ref p), some (.int bias), some (.int (i : Int)), some (.int kind), some (.int rest), v8, v9, v10, v11, v12, v13, v14]) ?_ ?_
    · walk_at "go"
      refine g_it (fun c => ?_) (fun c => ?_)
      · walk_at "go"
        exact ⟨rfl, 0, by omega, by omega, rfl⟩
      · walk_at "go"
        exact ⟨rfl, kind, k6.1, k6.2, rfl⟩
    · clear k6 kind
      rintro σ H1 ⟨rfl, kind, k0, k6, rfl⟩
      walk_at "go"
      refine g_newN (by simp) fun q1 hq1 => ?_
      walk_at "go"
      refine g_ixP (fun v => ∃ z, v = .int z) (SqL.of upd_same) (by simp) (by omega) (by simp only [List.length_cons, List.length_nil]; omega) fun v hv => ?_
      obtain ⟨hd, rfl⟩ := hv
      walk_at "go"
      refine g_newN (by simp) fun q2 hq2 => ?_
      walk_at "go"
      refine g_ixP (fun v => v = .int 6 ∨ v = .int 65535) (SqL.of upd_same) (by simp) (by omega) (by simp only [List.length_cons, List.length_nil]; omega) fun v hv => ?_
      obtain ⟨m, rfl, m0⟩ : ∃ m : Int, v = .int m ∧ 0 < m := by
        rcases hv with rfl | rfl
        · exact ⟨_, rfl, by omega⟩
        · exact ⟨_, rfl, by omega⟩
      walk_at "go"
      generalize 1 + rest / 5 % m = more
      refine g_newN (by simp) fun q3 hq3 => ?_
      walk_at "go"
      refine g_ixP (fun v => ∃ z, v = .str z ∧ (PyData.str z).canLay0 = true) (SqL.of upd_same) (by simp; decide +kernel) (by omega) (by simp only [List.length_cons, List.length_nil]; omega) fun v hv => ?_
      obtain ⟨acc, rfl, hacc⟩ := hv
      walk_at "go"
      refine g_cut (fun σ H2 => LI K H H2 h dh l p fs ∧ ∃ (hd more : Int) (acc : Str), (PyData.str acc).canLay0 = true ∧ σ = [some (.ref a), some (.int n), some (.ref h), some (.ref p), some (.int bias), some (.int (i : Int)), some (.int kind), some (.int rest), some (.int hd), some (.int more), some (.str acc), some .non, v12, v13, v14]) ?_ ?_
      · walk_at "go"
        exact ⟨L.keep (same_new3 hq1 hq2 hq3), hd, more, acc, hacc, rfl⟩
      clear hq1 hq2 hq3 hv hacc hd more acc L hS' q1 q2 q3 m m0
      rintro σ H2 ⟨L, hd, more, acc, hacc, rfl⟩
      have l16 : (rows fs).length = 16 := by rw [rows_len, L.A.len]
      walk_at "go"
      refine ⟨p, rows fs, rfl, L.R, l16, fun q H3 S3 nq R3 => ?_⟩
      walk_at "go"
      obtain ⟨xs, ep, exl, _⟩ := L.R
      have B1 := S3 _ _ L.A.obj
      refine g_cut (fun σ H4 => ∃ h' dh' l' fs' left, LI K H H4 h' dh' l' p fs' ∧ rows fs' = rows fs ∧ σ = [some (.ref a), some (.int n), some (.ref h'), some (.ref p), some (.int bias), some (.int (i : Int)), some (.int kind), some (.int rest), some (.int hd), some (.int more), some (.str acc), some left, some (.ref q), v13, v14] ∧
        (left = .non ∨ left = .ref h ∧ Same H3 H4 ∧ H3 l' = none ∧ ∀ (i : Nat) f, fs'[i]? = some (some f) → H3 f.p = none)) ?_ ?_
      · walk_at "go"
        refine g_it (fun c => ?_) (fun c => ?_)
        · walk_at "go"
          refine ⟨h, dh, l, fs, rfl, L.A.keep S3, fun h' dh' l' fs' H4 S4 n1 n2 n3 A4 re => ?_⟩
          walk_at "go"
          have S24 : Same H2 H4 := fun b o e => S4 b o (S3 b o e)
          have S03 : Same H H3 := fun b o e => S3 b o (L.same b o e)
          refine ⟨h', dh', l', fs', .ref h, ⟨fun b o e => S24 b o (L.same b o e), A4, by rw [re]; exact L.R.keep S24, by rw [re]; exact L.ok, ne_of_none (S3 _ _ ep) n2, L.np, S03.free n2, fun i f e => S03.free (n3 i f e)⟩, re, rfl, .inr ⟨rfl, S4, n2, n3⟩⟩
        · walk_at "go"
          exact ⟨h, dh, l, fs, .non, L.keep S3, rfl, rfl, .inl rfl⟩
      · rintro σ H4 ⟨h', dh', l', fs', left, L4, re, rfl, hl⟩
        walk_at "go"
        obtain ⟨ys, ep4, eyl, _⟩ := L4.R
        refine ⟨h', dh', l', fs', kind, hd, more, acc, rfl, L4.A, k0, k6, fun t w b d fs2 H5 ch A5 ow ed tq tn td tw => ?_⟩
        walk_at "go"
        have pfl : ∀ (i : Nat) f, fs'[i]? = some (some f) → p ≠ f.p := fun i f e => ne_of ep4 (L4.A.at_ i f e) (by unfold oFl; intro z; cases z)
        have R5 : RowsAt H5 p (rows fs') := L4.R.mono (fun xs e _ => ch _ _ e L4.pl pfl) fun b n a r ne e => ch _ _ e (fun z => by
          subst z
          have := L4.A.lst.symm.trans e
          have := congrArg (fun o => match o with | some (HO.lst x) => x.length | _ => 0) this
          simp only [List.length_map, L4.A.len] at this
          simp at this) fun i f ei => ne_of e (L4.A.at_ i f ei) (by unfold oFl; intro z; cases z)
        refine ⟨p, rows fs', kind, hd, more, acc, rfl, R5, L4.ok, by rw [rows_len, L4.A.len], k0, k6, fun v H6 k6' R6 dv => ?_⟩
        rw [ed] at R6 dv
        have nt : t ≠ p := (ne_of_none ep4 tn).symm
        have dt : Dp K H6 (.ref t) (.list [.str w, d]) := .lst (SqL.of (k6' _ _ tq (nm1 nt))) (.cons (.str _) (.cons (td _ fun b o e n => k6' _ _ e (nm1 (ne_of_none ep4 n).symm)) .nil))
        refine g_neD dt dv (by have := due_fine (kind := kind) (hd := hd) (more := more) (acc := acc) L4.ok; rw [ed] at this; exact this) ?_
        walk_at "go"
        have np2 : p ≠ l' := L4.pl
        have pfl2 : ∀ (i : Nat) f, fs2[i]? = some (some f) → p ≠ f.p := fun i f e => by
          rcases ow i f e with ⟨j, g, e2, e3⟩ | z
          · rw [← e3]; exact pfl j g e2
          · exact ne_of_none ep4 z
        have A6 : Hands K H6 h' dh' l' fs2 := ⟨k6' _ _ A5.obj (nm1 (ne_of L4.A.obj ep4 (by intro z; cases z))), k6' _ _ A5.lst (nm1 np2.symm), A5.len, fun i f e => k6' _ _ (A5.at_ i f e) (nm1 (pfl2 i f e).symm), A5.inj⟩
        have ok2 : Okay (rows fs2) := by have := due_okay (kind := kind) (hd := hd) (more := more) L4.ok hacc; rw [ed] at this; exact this
        refine ⟨h', dh', l', p, fs2, rfl, A6, R6, ok2, fun H7 S7 => ?_⟩
        have L7 : LI K H H7 h' dh' l' p fs2 := by
          refine ⟨fun b o e => ?_, A6.keep S7, R6.keep S7, ok2, np2, L4.np, L4.nl, fun i f e => ?_⟩
          · exact S7 _ _ (k6' _ _ (ch _ _ (L4.same b o e) (ne_of_none e L4.nl) fun i f ef => ne_of_none e (L4.nf i f ef)) (nm1 (ne_of_none e L4.np)))
          · rcases ow i f e with ⟨j, g, e2, e3⟩ | z
            · rw [← e3]; exact L4.nf j g e2
            · exact Same.free L4.same z
        have tq7 : H7 t = some (.lst [.str w, b]) := S7 _ _ (k6' _ _ tq (nm1 nt))
        walk_at "go"
        refine g_cut (fun σ H8 => H8 = H7 ∧ σ = [some (.ref a), some (.int n), some (.ref h'), some (.ref p), some (.int bias), some (.int (i : Int)), some (.int kind), some (.int rest), some (.int hd), some (.int more), some (.str acc), some left, some (.ref q), some (.ref t), v14]) ?_ ?_
        · walk_at "go"
          refine g_it (fun c => ?_) (fun c => ?_)
          · walk_at "go"
            refine g_ixL (n := 0) (by walk_at "sq") rfl rfl ?_
            walk_at "go"
            refine g_it (fun c2 => ?_) (fun c2 => ?_)
            · obtain ⟨z, rfl⟩ := tw c2
              walk_at "go"
              refine g_ixL (n := 1) (by walk_at "sq") rfl rfl ?_
              walk_at "go"
              refine ⟨z, rfl, ?_⟩
              walk_at "go"
              exact ⟨rfl, rfl⟩
            · walk_at "go"
              exact ⟨rfl, rfl⟩
          · walk_at "go"
            exact ⟨rfl, rfl⟩
        · rintro σ H8 ⟨rfl, rfl⟩
          walk_at "go"
          rcases hl with rfl | ⟨rfl, S34, m1, m2⟩
          · walk_at "go"
            exact ⟨h', dh', l', p, fs2, L7, n, _, _, _, _, _, _, _, _, _, _, rfl⟩
          · walk_at "go"
            have K38 : ∀ b o, b ≠ p → H3 b = some o → H8 b = some o := fun b o ne e =>
              S7 _ _ (k6' _ _ (ch _ _ (S34 b o e) (ne_of_none e m1) fun i f ef => ne_of_none e (m2 i f ef)) (nm1 ne))
            have ep3 := S3 _ _ ep
            have np0 : ∀ {b : Addr} {o : HO}, H3 b = some o → o ≠ .lst xs → b ≠ p := fun e no => ne_of e ep3 no
            have A3 := L.A.keep S3
            have A8 : Hands K H8 h dh l fs := ⟨K38 _ _ (np0 A3.obj (by intro z; cases z)) A3.obj, K38 _ _ L.pl.symm A3.lst, A3.len, fun i f e => K38 _ _ (np0 (A3.at_ i f e) (by unfold oFl; intro z; cases z)) (A3.at_ i f e), A3.inj⟩
            have nqp : q ≠ p := (ne_of_none ep nq).symm
            have R8 : RowsAt H8 q (rows fs) := R3.mono (fun xs e _ => K38 _ _ nqp e) fun b n a r ne e => K38 _ _ (np0 e (fun z => by
              have := congrArg (fun o => match o with | HO.lst x => x.length | _ => 0) z
              simp only [exl, l16] at this
              simp at this)) e
            refine ⟨h, dh, l, q, fs, rfl, A8, R8, L.ok, fun H9 S9 => ?_⟩
            walk_at "go"
            exact ⟨h', dh', l', p, fs2, L7.keep S9, n, _, _, _, _, _, _, _, _, _, _, rfl⟩
  · rintro σ H4 ⟨h, dh, l, p, fs, L, n, v5, v6, v7, v8, v9, v10, v11, v12, v13, v14, rfl⟩
    walk_at "go"
    intro x dx nx ndx nxd
    refine ⟨x, dx, 7, "both", 0, rfl, upd_same, rfl, ?_⟩
    walk_at "go"
    refine ⟨x, ⟨x, dx, 7, "both", 0⟩, rfl, upd_same, fun p1 n1 => ?_⟩
    walk_at "go"
    refine g_newN (by simp) fun p2 n2 => ?_
    walk_at "go"
    refine g_eqD (row_dp (n := 7) (a := "both") (r := 0) (at_upd (nu1 n2).symm upd_same)) (row_dp upd_same) (fine_row (by decide +kernel)) ?_
    walk_at "go"
    intro x' dx' nx' ndx' nxd'
    refine ⟨x', dx', 1, "read", 5, rfl, upd_same, rfl, ?_⟩
    walk_at "go"
    refine ⟨x', ⟨x', dx', 1, "read", 5⟩, rfl, upd_same, fun p3 n3 => ?_⟩
    walk_at "go"
    refine g_newN (by simp) fun p4 n4 => ?_
    walk_at "go"
    refine g_eqD (row_dp (n := 1) (a := "read") (r := 5) (at_upd (nu1 n4).symm upd_same)) (row_dp upd_same) (fine_row (by decide +kernel)) ?_
    exact kQ _
open PySem PySem.Spec L2
def top (i : Nat) : Stmt := PySem.Challenge.pw_segmentfs_k61_handles_by_a_list.main.body.getD i (.Pass ⟨0, 0, 0, 0⟩)
def s__law_row : Stmt := top 9
def s_Handles___init__ : Stmt := inClass (top 7) 0
def s__law_rows : Stmt := top 11
def s_Handles_opened_numbers : Stmt := inClass (top 7) 7
def s__law_numbers : Stmt := top 12
def s__law_agrees : Stmt := top 16
def s__law_copy : Stmt := top 17
def s_OpenFile___init__ : Stmt := inClass (top 6) 0
def s_Handles_fork : Stmt := inClass (top 7) 8
def s_Handles_acquire : Stmt := inClass (top 7) 1
def s__law_fields : Stmt := top 13
def s_Handles_get : Stmt := inClass (top 7) 2
def s_Handles_free : Stmt := inClass (top 7) 5
def s_Handles_reading : Stmt := inClass (top 7) 3
def s_Handles_writing : Stmt := inClass (top 7) 4
def s_Handles_reserve : Stmt := inClass (top 7) 6
def s__law_told : Stmt := top 14
def s__law_due : Stmt := top 15
def s__law_is_integer : Stmt := top 10
def s_law : Stmt := top 18
theorem sc__law_row : FnScope N__law_row ["_law_script", "_law_k"] (defScope s__law_row) := ⟨rfl, rfl, rfl, by decide +kernel, rfl, by decide +kernel, by decide +kernel⟩
theorem sc_Handles___init__ : FnScope N_Handles___init__ ["self"] (defScope s_Handles___init__) := ⟨rfl, rfl, rfl, by decide +kernel, rfl, by decide +kernel, by decide +kernel⟩
theorem sc__law_rows : FnScope N__law_rows ["_law_handles"] (defScope s__law_rows) := ⟨rfl, rfl, rfl, by decide +kernel, rfl, by decide +kernel, by decide +kernel⟩
theorem sc_Handles_opened_numbers : FnScope N_Handles_opened_numbers ["self"] (defScope s_Handles_opened_numbers) := ⟨rfl, rfl, rfl, by decide +kernel, rfl, by decide +kernel, by decide +kernel⟩
theorem sc__law_numbers : FnScope N__law_numbers ["_law_rows_here"] (defScope s__law_numbers) := ⟨rfl, rfl, rfl, by decide +kernel, rfl, by decide +kernel, by decide +kernel⟩
theorem sc__law_agrees : FnScope N__law_agrees ["_law_handles", "_law_rows_here"] (defScope s__law_agrees) := ⟨rfl, rfl, rfl, by decide +kernel, rfl, by decide +kernel, by decide +kernel⟩
theorem sc__law_copy : FnScope N__law_copy ["_law_rows_here"] (defScope s__law_copy) := ⟨rfl, rfl, rfl, by decide +kernel, rfl, by decide +kernel, by decide +kernel⟩
theorem sc_OpenFile___init__ : FnScope N_OpenFile___init__ ["self", "number", "access", "reserved"] (defScope s_OpenFile___init__) := ⟨rfl, rfl, rfl, by decide +kernel, rfl, by decide +kernel, by decide +kernel⟩
theorem sc_Handles_fork : FnScope N_Handles_fork ["self"] (defScope s_Handles_fork) := ⟨rfl, rfl, rfl, by decide +kernel, rfl, by decide +kernel, by decide +kernel⟩
theorem sc_Handles_acquire : FnScope N_Handles_acquire ["self", "number", "access"] (defScope s_Handles_acquire) := ⟨rfl, rfl, rfl, by decide +kernel, rfl, by decide +kernel, by decide +kernel⟩
theorem sc__law_fields : FnScope N__law_fields ["_law_file"] (defScope s__law_fields) := ⟨rfl, rfl, rfl, by decide +kernel, rfl, by decide +kernel, by decide +kernel⟩
theorem sc_Handles_get : FnScope N_Handles_get ["self", "handle"] (defScope s_Handles_get) := ⟨rfl, rfl, rfl, by decide +kernel, rfl, by decide +kernel, by decide +kernel⟩
theorem sc_Handles_free : FnScope N_Handles_free ["self", "handle"] (defScope s_Handles_free) := ⟨rfl, rfl, rfl, by decide +kernel, rfl, by decide +kernel, by decide +kernel⟩
theorem sc_Handles_reading : FnScope N_Handles_reading ["self", "handle"] (defScope s_Handles_reading) := ⟨rfl, rfl, rfl, by decide +kernel, rfl, by decide +kernel, by decide +kernel⟩
theorem sc_Handles_writing : FnScope N_Handles_writing ["self", "handle"] (defScope s_Handles_writing) := ⟨rfl, rfl, rfl, by decide +kernel, rfl, by decide +kernel, by decide +kernel⟩
theorem sc_Handles_reserve : FnScope N_Handles_reserve ["self", "handle", "blocks"] (defScope s_Handles_reserve) := ⟨rfl, rfl, rfl, by decide +kernel, rfl, by decide +kernel, by decide +kernel⟩
theorem sc__law_told : FnScope N__law_told ["_law_handles", "_law_kind", "_law_handle", "_law_more", "_law_access"] (defScope s__law_told) := ⟨rfl, rfl, rfl, by decide +kernel, rfl, by decide +kernel, by decide +kernel⟩
theorem sc__law_due : FnScope N__law_due ["_law_rows_here", "_law_kind", "_law_handle", "_law_more", "_law_access"] (defScope s__law_due) := ⟨rfl, rfl, rfl, by decide +kernel, rfl, by decide +kernel, by decide +kernel⟩
theorem sc__law_is_integer : FnScope N__law_is_integer ["_law_actual"] (defScope s__law_is_integer) := ⟨rfl, rfl, rfl, by decide +kernel, rfl, by decide +kernel, by decide +kernel⟩
theorem sc_law : FnScope N_law ["_law_script"] (defScope s_law) := ⟨rfl, rfl, rfl, by decide +kernel, rfl, by decide +kernel, by decide +kernel⟩
def d__law_row : Df := ⟨(.fn "_law_row"), "_law_row", "_law_row", s__law_row, [], []⟩
def d_Handles___init__ : Df := ⟨(.me "Handles" "__init__"), "__init__", "Handles.__init__", s_Handles___init__, [], []⟩
def d__law_rows : Df := ⟨(.fn "_law_rows"), "_law_rows", "_law_rows", s__law_rows, [], []⟩
def d_Handles_opened_numbers : Df := ⟨(.me "Handles" "opened_numbers"), "opened_numbers", "Handles.opened_numbers", s_Handles_opened_numbers, [], []⟩
def d__law_numbers : Df := ⟨(.fn "_law_numbers"), "_law_numbers", "_law_numbers", s__law_numbers, [], []⟩
def d__law_agrees : Df := ⟨(.fn "_law_agrees"), "_law_agrees", "_law_agrees", s__law_agrees, [], []⟩
def d__law_copy : Df := ⟨(.fn "_law_copy"), "_law_copy", "_law_copy", s__law_copy, [], []⟩
def d_OpenFile___init__ : Df := ⟨(.me "OpenFile" "__init__"), "__init__", "OpenFile.__init__", s_OpenFile___init__, [.int 0], []⟩
def d_Handles_fork : Df := ⟨(.me "Handles" "fork"), "fork", "Handles.fork", s_Handles_fork, [], []⟩
def d_Handles_acquire : Df := ⟨(.me "Handles" "acquire"), "acquire", "Handles.acquire", s_Handles_acquire, [], []⟩
def d__law_fields : Df := ⟨(.fn "_law_fields"), "_law_fields", "_law_fields", s__law_fields, [], []⟩
def d_Handles_get : Df := ⟨(.me "Handles" "get"), "get", "Handles.get", s_Handles_get, [], []⟩
def d_Handles_free : Df := ⟨(.me "Handles" "free"), "free", "Handles.free", s_Handles_free, [], []⟩
def d_Handles_reading : Df := ⟨(.me "Handles" "reading"), "reading", "Handles.reading", s_Handles_reading, [], []⟩
def d_Handles_writing : Df := ⟨(.me "Handles" "writing"), "writing", "Handles.writing", s_Handles_writing, [], []⟩
def d_Handles_reserve : Df := ⟨(.me "Handles" "reserve"), "reserve", "Handles.reserve", s_Handles_reserve, [], []⟩
def d__law_told : Df := ⟨(.fn "_law_told"), "_law_told", "_law_told", s__law_told, [], []⟩
def d__law_due : Df := ⟨(.fn "_law_due"), "_law_due", "_law_due", s__law_due, [], []⟩
def d__law_is_integer : Df := ⟨(.fn "_law_is_integer"), "_law_is_integer", "_law_is_integer", s__law_is_integer, [], []⟩
def d_law : Df := ⟨(.fn "law"), "law", "law", s_law, [], []⟩
def fns : List Df := [d__law_row, d_Handles___init__, d__law_rows, d_Handles_opened_numbers, d__law_numbers, d__law_agrees, d__law_copy, d_OpenFile___init__, d_Handles_fork, d_Handles_acquire, d__law_fields, d_Handles_get, d_Handles_free, d_Handles_reading, d_Handles_writing, d_Handles_reserve, d__law_told, d__law_due, d__law_is_integer, d_law]
def bits (K : Frag) : List Bool := [
  (He.Fa.mkr "Handles").ok K,
  (He.Fa.glo "Handles").ok K,
  (He.Fa.int "HANDLES" 16).ok K,
  (He.Fa.free "int").ok K,
  (He.Fa.free "range").ok K,
  (He.Fa.cls "Handles").ok K,
  (He.Fa.meth "Handles" "fork").ok K,
  (He.Fa.mkr "OpenFile").ok K,
  (He.Fa.glo "OpenFile").ok K,
  (He.Fa.cls "OpenFile").ok K,
  (He.Fa.noat "OpenFile" "number").ok K,
  (He.Fa.noat "OpenFile" "access").ok K,
  (He.Fa.noat "OpenFile" "reserved").ok K,
  (He.Fa.free "bool").ok K,
  (He.Fa.free "isinstance").ok K,
  (He.Fa.free "list").ok K,
  (He.Fa.meth "Handles" "acquire").ok K,
  (He.Fa.meth "Handles" "free").ok K,
  (He.Fa.meth "Handles" "get").ok K,
  (He.Fa.meth "Handles" "reading").ok K,
  (He.Fa.meth "Handles" "writing").ok K,
  (He.Fa.meth "Handles" "reserve").ok K,
  (He.Fa.glo "BadHandle").ok K,
  (He.Fa.glo "TooManyOpen").ok K,
  (He.Fa.glo "SegmentError").ok K,
  (He.Fa.exc "BadHandle").ok K,
  (He.Fa.noat "Handles" "files").ok K,
  (He.Fa.exc "TooManyOpen").ok K,
  (He.Fa.free "len").ok K,
  (He.Fa.meth "Handles" "opened_numbers").ok K,
  (He.Fa.free "sorted").ok K,
  (He.Fa.exm "BadHandle" "SegmentError" true).ok K,
  (He.Fa.exm "TooManyOpen" "SegmentError" true).ok K,
  excB K "BadHandle",
  excB K "TooManyOpen",
  kitB2 K "BadHandle" "BadHandle" true,
  kitB2 K "BadHandle" "TooManyOpen" false,
  kitB2 K "TooManyOpen" "BadHandle" false,
  kitB2 K "TooManyOpen" "TooManyOpen" true,
  (He.Fa.glo "_law_row").ok K,
  (He.Fa.glo "_law_rows").ok K,
  (He.Fa.glo "_law_numbers").ok K,
  (He.Fa.glo "_law_agrees").ok K,
  (He.Fa.glo "_law_copy").ok K,
  (He.Fa.glo "_law_fields").ok K,
  (He.Fa.glo "_law_told").ok K,
  (He.Fa.glo "_law_due").ok K,
  (He.Fa.glo "_law_is_integer").ok K,
  (He.Fa.glo "law").ok K]
abbrev TX (K : Frag) (mg : Str → Option Value) : Prop := Tx bits fns K mg
section
variable {K : Frag} {mg : Str → Option Value}
theorem F_mkr_Handles (T : TX K mg) : Mk K (He.ga K "Handles") (He.ma K (He.ga K "Handles") "__init__") := He.mkr_ok (T.bit 0)
theorem F_glo_Handles (T : TX K mg) : mg "Handles" = some (.ref (He.ga K "Handles")) := T.glo (T.bit 1)
theorem F_int_HANDLES_16 (T : TX K mg) : ∃ t, mg "HANDLES" = some (.int 16 t) := T.int (T.bit 2)
theorem F_free_int (T : TX K mg) : mg "int" = none := T.free (T.bit 3)
theorem F_free_range (T : TX K mg) : mg "range" = none := T.free (T.bit 4)
theorem F_cls_Handles (T : TX K mg) : Cls K (He.ga K "Handles") := He.cls_ok (T.bit 5)
theorem F_meth_Handles_fork (T : TX K mg) : Meth K (He.ga K "Handles") "fork" (He.ma K (He.ga K "Handles") "fork") := He.meth_ok (T.bit 6)
theorem F_mkr_OpenFile (T : TX K mg) : Mk K (He.ga K "OpenFile") (He.ma K (He.ga K "OpenFile") "__init__") := He.mkr_ok (T.bit 7)
theorem F_glo_OpenFile (T : TX K mg) : mg "OpenFile" = some (.ref (He.ga K "OpenFile")) := T.glo (T.bit 8)
theorem F_cls_OpenFile (T : TX K mg) : Cls K (He.ga K "OpenFile") := He.cls_ok (T.bit 9)
theorem F_noat_OpenFile_number (T : TX K mg) : NoAttr K (He.ga K "OpenFile") "number" := He.noat_ok (T.bit 10)
theorem F_noat_OpenFile_access (T : TX K mg) : NoAttr K (He.ga K "OpenFile") "access" := He.noat_ok (T.bit 11)
theorem F_noat_OpenFile_reserved (T : TX K mg) : NoAttr K (He.ga K "OpenFile") "reserved" := He.noat_ok (T.bit 12)
theorem F_free_bool (T : TX K mg) : mg "bool" = none := T.free (T.bit 13)
theorem F_free_isinstance (T : TX K mg) : mg "isinstance" = none := T.free (T.bit 14)
theorem F_free_list (T : TX K mg) : mg "list" = none := T.free (T.bit 15)
theorem F_meth_Handles_acquire (T : TX K mg) : Meth K (He.ga K "Handles") "acquire" (He.ma K (He.ga K "Handles") "acquire") := He.meth_ok (T.bit 16)
theorem F_meth_Handles_free (T : TX K mg) : Meth K (He.ga K "Handles") "free" (He.ma K (He.ga K "Handles") "free") := He.meth_ok (T.bit 17)
theorem F_meth_Handles_get (T : TX K mg) : Meth K (He.ga K "Handles") "get" (He.ma K (He.ga K "Handles") "get") := He.meth_ok (T.bit 18)
theorem F_meth_Handles_reading (T : TX K mg) : Meth K (He.ga K "Handles") "reading" (He.ma K (He.ga K "Handles") "reading") := He.meth_ok (T.bit 19)
theorem F_meth_Handles_writing (T : TX K mg) : Meth K (He.ga K "Handles") "writing" (He.ma K (He.ga K "Handles") "writing") := He.meth_ok (T.bit 20)
theorem F_meth_Handles_reserve (T : TX K mg) : Meth K (He.ga K "Handles") "reserve" (He.ma K (He.ga K "Handles") "reserve") := He.meth_ok (T.bit 21)
theorem F_glo_BadHandle (T : TX K mg) : mg "BadHandle" = some (.ref (He.ga K "BadHandle")) := T.glo (T.bit 22)
theorem F_glo_TooManyOpen (T : TX K mg) : mg "TooManyOpen" = some (.ref (He.ga K "TooManyOpen")) := T.glo (T.bit 23)
theorem F_glo_SegmentError (T : TX K mg) : mg "SegmentError" = some (.ref (He.ga K "SegmentError")) := T.glo (T.bit 24)
theorem F_exc_BadHandle (T : TX K mg) : PySem.W.excIn K (He.ga K "BadHandle") He.veBase "ValueError.__new__" = true ∧ PySem.W.keepIn K (.ref (He.ga K "BadHandle")) = true ∧ PySem.W.subIn K (.ref (He.ga K "BadHandle")) (.type "BaseException") = some true ∧ PySem.W.typeIn K (.ref (He.ga K "BadHandle")) = some (.type "type") := He.exc_ok (T.bit 25)
theorem F_noat_Handles_files (T : TX K mg) : NoAttr K (He.ga K "Handles") "files" := He.noat_ok (T.bit 26)
theorem F_exc_TooManyOpen (T : TX K mg) : PySem.W.excIn K (He.ga K "TooManyOpen") He.veBase "ValueError.__new__" = true ∧ PySem.W.keepIn K (.ref (He.ga K "TooManyOpen")) = true ∧ PySem.W.subIn K (.ref (He.ga K "TooManyOpen")) (.type "BaseException") = some true ∧ PySem.W.typeIn K (.ref (He.ga K "TooManyOpen")) = some (.type "type") := He.exc_ok (T.bit 27)
theorem F_free_len (T : TX K mg) : mg "len" = none := T.free (T.bit 28)
theorem F_meth_Handles_opened_numbers (T : TX K mg) : Meth K (He.ga K "Handles") "opened_numbers" (He.ma K (He.ga K "Handles") "opened_numbers") := He.meth_ok (T.bit 29)
theorem F_free_sorted (T : TX K mg) : mg "sorted" = none := T.free (T.bit 30)
theorem F_exm_BadHandle_SegmentError_True (T : TX K mg) : PySem.W.exmOne K (.ref (He.ga K "BadHandle")) (.ref (He.ga K "SegmentError")) = some true := He.exm_ok (T.bit 31)
theorem F_exm_TooManyOpen_SegmentError_True (T : TX K mg) : PySem.W.exmOne K (.ref (He.ga K "TooManyOpen")) (.ref (He.ga K "SegmentError")) = some true := He.exm_ok (T.bit 32)
theorem F_excC_BadHandle (T : TX K mg) : ExcC K (He.ga K "BadHandle") := excB_ok (T.bit 33)
theorem F_excC_TooManyOpen (T : TX K mg) : ExcC K (He.ga K "TooManyOpen") := excB_ok (T.bit 34)
theorem F_kit_BadHandle_BadHandle_True (T : TX K mg) : PySem.W.kitOne K (.ref (He.ga K "BadHandle")) (.ref (He.ga K "BadHandle")) = some true := kitB2_ok (T.bit 35)
theorem F_kit_BadHandle_TooManyOpen_False (T : TX K mg) : PySem.W.kitOne K (.ref (He.ga K "BadHandle")) (.ref (He.ga K "TooManyOpen")) = some false := kitB2_ok (T.bit 36)
theorem F_kit_TooManyOpen_BadHandle_False (T : TX K mg) : PySem.W.kitOne K (.ref (He.ga K "TooManyOpen")) (.ref (He.ga K "BadHandle")) = some false := kitB2_ok (T.bit 37)
theorem F_kit_TooManyOpen_TooManyOpen_True (T : TX K mg) : PySem.W.kitOne K (.ref (He.ga K "TooManyOpen")) (.ref (He.ga K "TooManyOpen")) = some true := kitB2_ok (T.bit 38)
theorem F_glo__law_row (T : TX K mg) : mg "_law_row" = some (.ref (He.ga K "_law_row")) := T.glo (T.bit 39)
theorem F_glo__law_rows (T : TX K mg) : mg "_law_rows" = some (.ref (He.ga K "_law_rows")) := T.glo (T.bit 40)
theorem F_glo__law_numbers (T : TX K mg) : mg "_law_numbers" = some (.ref (He.ga K "_law_numbers")) := T.glo (T.bit 41)
theorem F_glo__law_agrees (T : TX K mg) : mg "_law_agrees" = some (.ref (He.ga K "_law_agrees")) := T.glo (T.bit 42)
theorem F_glo__law_copy (T : TX K mg) : mg "_law_copy" = some (.ref (He.ga K "_law_copy")) := T.glo (T.bit 43)
theorem F_glo__law_fields (T : TX K mg) : mg "_law_fields" = some (.ref (He.ga K "_law_fields")) := T.glo (T.bit 44)
theorem F_glo__law_told (T : TX K mg) : mg "_law_told" = some (.ref (He.ga K "_law_told")) := T.glo (T.bit 45)
theorem F_glo__law_due (T : TX K mg) : mg "_law_due" = some (.ref (He.ga K "_law_due")) := T.glo (T.bit 46)
theorem F_glo__law_is_integer (T : TX K mg) : mg "_law_is_integer" = some (.ref (He.ga K "_law_is_integer")) := T.glo (T.bit 47)
theorem F_glo_law (T : TX K mg) : mg "law" = some (.ref (He.ga K "law")) := T.glo (T.bit 48)
theorem f__law_row (T : TX K mg) : ∃ fd, FunS K d__law_row fd := T.df 0
theorem f_Handles___init__ (T : TX K mg) : ∃ fd, FunS K d_Handles___init__ fd := T.df 1
theorem f__law_rows (T : TX K mg) : ∃ fd, FunS K d__law_rows fd := T.df 2
theorem f_Handles_opened_numbers (T : TX K mg) : ∃ fd, FunS K d_Handles_opened_numbers fd := T.df 3
theorem f__law_numbers (T : TX K mg) : ∃ fd, FunS K d__law_numbers fd := T.df 4
theorem f__law_agrees (T : TX K mg) : ∃ fd, FunS K d__law_agrees fd := T.df 5
theorem f__law_copy (T : TX K mg) : ∃ fd, FunS K d__law_copy fd := T.df 6
theorem f_OpenFile___init__ (T : TX K mg) : ∃ fd, FunS K d_OpenFile___init__ fd := T.df 7
theorem f_Handles_fork (T : TX K mg) : ∃ fd, FunS K d_Handles_fork fd := T.df 8
theorem f_Handles_acquire (T : TX K mg) : ∃ fd, FunS K d_Handles_acquire fd := T.df 9
theorem f__law_fields (T : TX K mg) : ∃ fd, FunS K d__law_fields fd := T.df 10
theorem f_Handles_get (T : TX K mg) : ∃ fd, FunS K d_Handles_get fd := T.df 11
theorem f_Handles_free (T : TX K mg) : ∃ fd, FunS K d_Handles_free fd := T.df 12
theorem f_Handles_reading (T : TX K mg) : ∃ fd, FunS K d_Handles_reading fd := T.df 13
theorem f_Handles_writing (T : TX K mg) : ∃ fd, FunS K d_Handles_writing fd := T.df 14
theorem f_Handles_reserve (T : TX K mg) : ∃ fd, FunS K d_Handles_reserve fd := T.df 15
theorem f__law_told (T : TX K mg) : ∃ fd, FunS K d__law_told fd := T.df 16
theorem f__law_due (T : TX K mg) : ∃ fd, FunS K d__law_due fd := T.df 17
theorem f__law_is_integer (T : TX K mg) : ∃ fd, FunS K d__law_is_integer fd := T.df 18
theorem f_law (T : TX K mg) : ∃ fd, FunS K d_law fd := T.df 19
end
section
variable {P : Program} {w : World} {K : Frag} {mg : Str → Option Value} {base : Heap}
theorem fok__law_row (T : TX K mg) {fd : FuncData} (F : FunS K d__law_row fd) : FnOk P w K mg base (L2.CX P w) 1 (He.ga K "_law_row") fd ["_law_script", "_law_k"] (sp__law_row K) := by
  refine F.ok (CX := L2.CX P w) sc__law_row (fun vs H Q E h => len__law_row h) fun cdv A outer s H vs Q E hr h => ⟨t__law_row K E, ?_, pure__law_row h⟩
  refine tk_intro (E := E) (takes_of rfl rfl rfl rfl) fun tk => ?_
  exact (pss_cons (ps_set (i := 2) sc__law_row.nd rfl (Or.inl rfl) (pv 1)) (x_cut (ps_if (pt_cmpR op_gt (pe_callB x_lenQ (by rfl) (F_free_len T) (by decide +kernel) (pa_cons (pv 0) pa_nil)) pe_int (nomark _)) (pss_one (ps_set (i := 2) sc__law_row.nd rfl (Or.inl rfl) (pe_callTy x_int (by rfl) (F_free_int T) (by decide +kernel) (pa_cons (pe_ix ix_list (pv 0) (pe_op op_mod (pv 1) (pe_callB x_lenQ (by rfl) (F_free_len T) (by decide +kernel) (pa_cons (pv 0) pa_nil))) (fun _ _ => rfl)) pa_nil)))) pss_nil) (x_cut (ps_if (pt_cmpR op_lt (pv 2) pe_int (nomark _)) (pss_one (ps_set (i := 2) sc__law_row.nd rfl (Or.inl rfl) (pe_op op_sub (pe_op op_mul (pe_un un_neg pe_int) (pv 2)) pe_int))) pss_nil) (pss_cons (ps_if (PW.pt (pw_and (pt_cmpR op_lt (pv 1) (pe_callB x_lenQ (by rfl) (F_free_len T) (by decide +kernel) (pa_cons (pv 0) pa_nil)) (nomark _)) (pw_and1 (pt_cmpR op_ge (pv 2) (pe_op op_pow pe_int pe_int) (nomark _))))) (pss_one (ps_ret (pv 2))) pss_nil) (pss_cons (ps_set (i := 3) sc__law_row.nd rfl (Or.inl rfl) (pe_op op_mod (pe_callTy x_int (by rfl) (F_free_int T) (by decide +kernel) (pa_cons (pe_op op_add (pe_op op_add (pe_op op_mul (pv 2) pe_int) (pe_op op_mul (pv 1) pe_int)) pe_int) pa_nil)) pe_int)) (pss_cons (ps_set (i := 4) sc__law_row.nd rfl (Or.inl rfl) (pe_op op_mod (pe_callTy x_int (by rfl) (F_free_int T) (by decide +kernel) (pa_cons (pe_op op_add (pe_op op_add (pe_op op_add (pe_op op_mul (pv 3) pe_int) (pv 2)) (pe_op op_mul (pv 1) pe_int)) pe_int) pa_nil)) pe_int)) (pss_cons (ps_set (i := 3) sc__law_row.nd rfl (Or.inl rfl) (pe_op op_mod (pe_callTy x_int (by rfl) (F_free_int T) (by decide +kernel) (pa_cons (pe_op op_add (pe_op op_add (pe_op op_mul (pv 3) pe_int) (pe_op op_mul (pv 4) pe_int)) (pv 1)) pa_nil)) pe_int)) (pss_one (ps_ret (pe_op op_add (pe_op op_mul (pv 4) pe_int) (pv 3)))))))))))
theorem ok_G__law_row (T : TX K mg) : Gf P w K mg base 1 "_law_row" ["_law_script", "_law_k"] [] (sp__law_row K) := by
  obtain ⟨fd, F⟩ := f__law_row T
  obtain ⟨ds, hd, hb⟩ : ∃ ds, Vals ([] : List V) ds ∧ Binds K fd ["_law_script", "_law_k"] ds := ⟨[], .nil, FunD.bindsN F fun _ _ _ _ _ _ us hl => match us, hl with | [_, _], _ => rfl⟩
  exact ⟨⟨fd, ds, fok__law_row T F, hb, hd⟩, F_glo__law_row T, F.kp⟩
theorem fok_Handles___init__ (T : TX K mg) {fd : FuncData} (F : FunS K d_Handles___init__ fd) : FnOk P w K mg base (L2.CX P w) 1 (He.ma K (He.ga K "Handles") "__init__") fd ["self"] (sp_Handles___init__ K) := by
  refine F.ok (CX := L2.CX P w) sc_Handles___init__ (fun vs H Q E h => len_Handles___init__ h) fun cdv A outer s H vs Q E hr h => ⟨t_Handles___init__ K E, ?_, pure_Handles___init__ h⟩
  refine tk_intro (E := E) (takes_of rfl rfl rfl rfl) fun tk => ?_
  exact (pss_one (x_sfld (F_cls_Handles T) (F_noat_Handles_files T) (pv 0) (pe_op op_rep (pe_lst (pa_cons pe_non pa_nil)) (x_gint (by rfl) (F_int_HANDLES_16 T)))))
theorem ok_G_Handles___init__ (T : TX K mg) : Gm P w K mg base 1 (He.ma K (He.ga K "Handles") "__init__") ["self"] [] (sp_Handles___init__ K) := by
  obtain ⟨fd, F⟩ := f_Handles___init__ T
  obtain ⟨ds, hd, hb⟩ : ∃ ds, Vals ([] : List V) ds ∧ Binds K fd ["self"] ds := ⟨[], .nil, FunD.bindsN F fun _ _ _ _ _ _ us hl => match us, hl with | [_], _ => rfl⟩
  exact ⟨fd, ds, fok_Handles___init__ T F, hb, hd⟩
theorem fok__law_rows (T : TX K mg) {fd : FuncData} (F : FunS K d__law_rows fd) : FnOk P w K mg base (L2.CX P w) 1 (He.ga K "_law_rows") fd ["_law_handles"] (sp__law_rows K) := by
  refine F.ok (CX := L2.CX P w) sc__law_rows (fun vs H Q E h => len__law_rows h) fun cdv A outer s H vs Q E hr h => ⟨t__law_rows K E, ?_, pure__law_rows h⟩
  refine tk_intro (E := E) (takes_of rfl rfl rfl rfl) fun tk => ?_
  exact (pss_cons (ps_set (i := 1) sc__law_rows.nd rfl (Or.inl rfl) (pe_lst pa_nil)) (pss_cons (ps_for (passes_of rfl) rfl (pi_list (x_fld (F_cls_Handles T) (F_noat_Handles_files T) (pv 0))) (pg_name (i := 2) sc__law_rows.nd rfl (Or.inl rfl)) (pss_one (ps_if (pt_cmpR op_isN1 (pv 2) pe_non (nomark _)) (pss_one (ps_expr (pe_bm PySem.F.plainAttrs_list PySem.F.slot_list_append PySem.F.type_list_append mt_append (pv 1) (pa_cons pe_non pa_nil)))) (pss_one (ps_expr (pe_bm PySem.F.plainAttrs_list PySem.F.slot_list_append PySem.F.type_list_append mt_append (pv 1) (pa_cons (pe_lst (pa_cons (x_fld (F_cls_OpenFile T) (F_noat_OpenFile_number T) (pv 2)) (pa_cons (x_fld (F_cls_OpenFile T) (F_noat_OpenFile_access T) (pv 2)) (pa_cons (x_fld (F_cls_OpenFile T) (F_noat_OpenFile_reserved T) (pv 2)) pa_nil)))) pa_nil))))))) (pss_one (ps_ret (pv 1)))))
theorem ok_G__law_rows (T : TX K mg) : Gf P w K mg base 1 "_law_rows" ["_law_handles"] [] (sp__law_rows K) := by
  obtain ⟨fd, F⟩ := f__law_rows T
  obtain ⟨ds, hd, hb⟩ : ∃ ds, Vals ([] : List V) ds ∧ Binds K fd ["_law_handles"] ds := ⟨[], .nil, FunD.bindsN F fun _ _ _ _ _ _ us hl => match us, hl with | [_], _ => rfl⟩
  exact ⟨⟨fd, ds, fok__law_rows T F, hb, hd⟩, F_glo__law_rows T, F.kp⟩
theorem fok_Handles_opened_numbers (T : TX K mg) {fd : FuncData} (F : FunS K d_Handles_opened_numbers fd) : FnOk P w K mg base (L2.CX P w) 1 (He.ma K (He.ga K "Handles") "opened_numbers") fd ["self"] (sp_Handles_opened_numbers K) := by
  refine F.ok (CX := L2.CX P w) sc_Handles_opened_numbers (fun vs H Q E h => len_Handles_opened_numbers h) fun cdv A outer s H vs Q E hr h => ⟨t_Handles_opened_numbers K E, ?_, pure_Handles_opened_numbers h⟩
  refine tk_intro (E := E) (takes_of rfl rfl rfl rfl) fun tk => ?_
  exact (pss_one (ps_ret (x_soSc (own := [(("file" : Str), 1)]) (g := (gName 1)) (tt := (tTest (tOp rNotN (tVar 1) (tC V.non)))) rfl sc_Handles_opened_numbers.nd (by rfl) (F_free_sorted T) (pi_list (x_fld (F_cls_Handles T) (F_noat_Handles_files T) (pv 0))) (blkOk_by (own := [(("file" : Str), 1)]) (N := N_Handles_opened_numbers) (sc := defScope s_Handles_opened_numbers) (by decide +kernel)) (fun _ _ _ _ _ => (pg_name (i := 1) sc_Handles_opened_numbers.nd rfl (Or.inl rfl))) (fun _ _ _ _ _ => (pts_one (pt_cmpR op_notN1 (pv 1) pe_non (nomark _)))) (fun _ _ _ _ _ => (x_fld (F_cls_OpenFile T) (F_noat_OpenFile_number T) (pv 1))))))
theorem ok_G_Handles_opened_numbers (T : TX K mg) : Gm P w K mg base 1 (He.ma K (He.ga K "Handles") "opened_numbers") ["self"] [] (sp_Handles_opened_numbers K) := by
  obtain ⟨fd, F⟩ := f_Handles_opened_numbers T
  obtain ⟨ds, hd, hb⟩ : ∃ ds, Vals ([] : List V) ds ∧ Binds K fd ["self"] ds := ⟨[], .nil, FunD.bindsN F fun _ _ _ _ _ _ us hl => match us, hl with | [_], _ => rfl⟩
  exact ⟨fd, ds, fok_Handles_opened_numbers T F, hb, hd⟩
theorem fok__law_numbers (T : TX K mg) {fd : FuncData} (F : FunS K d__law_numbers fd) : FnOk P w K mg base (L2.CX P w) 1 (He.ga K "_law_numbers") fd ["_law_rows_here"] (sp__law_numbers K) := by
  refine F.ok (CX := L2.CX P w) sc__law_numbers (fun vs H Q E h => len__law_numbers h) fun cdv A outer s H vs Q E hr h => ⟨t__law_numbers K E, ?_, pure__law_numbers h⟩
  refine tk_intro (E := E) (takes_of rfl rfl rfl rfl) fun tk => ?_
  exact (pss_cons (ps_set (i := 1) sc__law_numbers.nd rfl (Or.inl rfl) (pe_lst pa_nil)) (pss_cons (ps_for (passes_of rfl) rfl (pi_list (pv 0)) (pg_name (i := 2) sc__law_numbers.nd rfl (Or.inl rfl)) (pss_one (ps_if (PW.pt (pw_and (pt_cmpR op_notN1 (pv 2) pe_non (nomark _)) (pw_and1 (pt_cmpR op_notIn_seq (pe_ix ix_list (pv 2) pe_int (fun _ _ => rfl)) (pv 1) (by rfl))))) (pss_one (ps_expr (pe_bm PySem.F.plainAttrs_list PySem.F.slot_list_append PySem.F.type_list_append mt_append (pv 1) (pa_cons (pe_ix ix_list (pv 2) pe_int (fun _ _ => rfl)) pa_nil)))) pss_nil))) (pss_one (ps_ret (pe_callB cr_sortedI (by rfl) (F_free_sorted T) (by decide +kernel) (pa_cons (pv 1) pa_nil))))))
theorem ok_G__law_numbers (T : TX K mg) : Gf P w K mg base 1 "_law_numbers" ["_law_rows_here"] [] (sp__law_numbers K) := by
  obtain ⟨fd, F⟩ := f__law_numbers T
  obtain ⟨ds, hd, hb⟩ : ∃ ds, Vals ([] : List V) ds ∧ Binds K fd ["_law_rows_here"] ds := ⟨[], .nil, FunD.bindsN F fun _ _ _ _ _ _ us hl => match us, hl with | [_], _ => rfl⟩
  exact ⟨⟨fd, ds, fok__law_numbers T F, hb, hd⟩, F_glo__law_numbers T, F.kp⟩
theorem fok__law_agrees (T : TX K mg) {fd : FuncData} (F : FunS K d__law_agrees fd) : FnOk P w K mg base (L2.CX P w) 2 (He.ga K "_law_agrees") fd ["_law_handles", "_law_rows_here"] (sp__law_agrees K) := by
  have G__law_rows := @ok_G__law_rows P w K mg base T
  have G_Handles_opened_numbers := @ok_G_Handles_opened_numbers P w K mg base T
  have G__law_numbers := @ok_G__law_numbers P w K mg base T
  refine F.ok (CX := L2.CX P w) sc__law_agrees (fun vs H Q E h => len__law_agrees h) fun cdv A outer s H vs Q E hr h => ⟨t__law_agrees K E, ?_, pure__law_agrees h⟩
  refine tk_intro (E := E) (takes_of rfl rfl rfl rfl) fun tk => ?_
  exact (pss_cons (ps_if (PW.pt (pw_or (pt_not (pt_val (pe_callB call_isi (by rfl) (F_free_isinstance T) (by decide +kernel) (pa_cons (x_fld (F_cls_Handles T) (F_noat_Handles_files T) (pv 0)) (pa_cons (pe_bltn (v := .ty "list") (by rfl) (F_free_list T) (by decide +kernel) rfl) pa_nil))))) (pw_or (pt_cmpR op_ne (pe_callB x_lenQ (by rfl) (F_free_len T) (by decide +kernel) (pa_cons (x_fld (F_cls_Handles T) (F_noat_Handles_files T) (pv 0)) pa_nil)) pe_int (nomark _)) (pw_or1 (pt_cmpR (op_neD hr.units) (x_call G__law_rows (hr.mono (by decide)) (by rfl) tk (pa_cons (pv 0) pa_nil)) (pv 1) (nomark _)))))) (pss_one (ps_ret pe_bl)) pss_nil) (pss_cons (ps_set (i := 2) sc__law_agrees.nd rfl (Or.inl rfl) (x_meth0 (pv 0) (F_cls_Handles T) (F_meth_Handles_opened_numbers T) G_Handles_opened_numbers (hr.mono (by decide)) tk)) (pss_cons (ps_if (PW.pt (pw_or (pt_not (pt_val (pe_callB call_isi (by rfl) (F_free_isinstance T) (by decide +kernel) (pa_cons (pv 2) (pa_cons (pe_bltn (v := .ty "list") (by rfl) (F_free_list T) (by decide +kernel) rfl) pa_nil))))) (pw_or1 (pt_cmpR (op_neD hr.units) (pv 2) (x_call G__law_numbers (hr.mono (by decide)) (by rfl) tk (pa_cons (pv 1) pa_nil)) (nomark _))))) (pss_one (ps_ret pe_bl)) pss_nil) (pss_cons (ps_expr (pe_bm PySem.F.plainAttrs_list PySem.F.slot_list_append PySem.F.type_list_append mt_append (pv 2) (pa_cons pe_int pa_nil))) (pss_one (ps_ret (pe_cmpR (op_eqD hr.units) (x_meth0 (pv 0) (F_cls_Handles T) (F_meth_Handles_opened_numbers T) G_Handles_opened_numbers (hr.mono (by decide)) tk) (x_call G__law_numbers (hr.mono (by decide)) (by rfl) tk (pa_cons (pv 1) pa_nil)) (nomark _))))))))
theorem ok_G__law_agrees (T : TX K mg) : Gf P w K mg base 2 "_law_agrees" ["_law_handles", "_law_rows_here"] [] (sp__law_agrees K) := by
  obtain ⟨fd, F⟩ := f__law_agrees T
  obtain ⟨ds, hd, hb⟩ : ∃ ds, Vals ([] : List V) ds ∧ Binds K fd ["_law_handles", "_law_rows_here"] ds := ⟨[], .nil, FunD.bindsN F fun _ _ _ _ _ _ us hl => match us, hl with | [_, _], _ => rfl⟩
  exact ⟨⟨fd, ds, fok__law_agrees T F, hb, hd⟩, F_glo__law_agrees T, F.kp⟩
theorem fok__law_copy (T : TX K mg) {fd : FuncData} (F : FunS K d__law_copy fd) : FnOk P w K mg base (L2.CX P w) 1 (He.ga K "_law_copy") fd ["_law_rows_here"] (sp__law_copy K) := by
  refine F.ok (CX := L2.CX P w) sc__law_copy (fun vs H Q E h => len__law_copy h) fun cdv A outer s H vs Q E hr h => ⟨t__law_copy K E, ?_, pure__law_copy h⟩
  refine tk_intro (E := E) (takes_of rfl rfl rfl rfl) fun tk => ?_
  exact (pss_cons (ps_set (i := 1) sc__law_copy.nd rfl (Or.inl rfl) (pe_lst pa_nil)) (pss_cons (ps_for (passes_of rfl) rfl (pi_list (pv 0)) (pg_name (i := 2) sc__law_copy.nd rfl (Or.inl rfl)) (pss_one (ps_if (pt_cmpR op_isN1 (pv 2) pe_non (nomark _)) (pss_one (ps_expr (pe_bm PySem.F.plainAttrs_list PySem.F.slot_list_append PySem.F.type_list_append mt_append (pv 1) (pa_cons pe_non pa_nil)))) (pss_one (ps_expr (pe_bm PySem.F.plainAttrs_list PySem.F.slot_list_append PySem.F.type_list_append mt_append (pv 1) (pa_cons (pe_callTy x_listOf (by rfl) (F_free_list T) (by decide +kernel) (pa_cons (pv 2) pa_nil)) pa_nil))))))) (pss_one (ps_ret (pv 1)))))
theorem ok_G__law_copy (T : TX K mg) : Gf P w K mg base 1 "_law_copy" ["_law_rows_here"] [] (sp__law_copy K) := by
  obtain ⟨fd, F⟩ := f__law_copy T
  obtain ⟨ds, hd, hb⟩ : ∃ ds, Vals ([] : List V) ds ∧ Binds K fd ["_law_rows_here"] ds := ⟨[], .nil, FunD.bindsN F fun _ _ _ _ _ _ us hl => match us, hl with | [_], _ => rfl⟩
  exact ⟨⟨fd, ds, fok__law_copy T F, hb, hd⟩, F_glo__law_copy T, F.kp⟩
theorem fok_OpenFile___init__ (T : TX K mg) {fd : FuncData} (F : FunS K d_OpenFile___init__ fd) : FnOk P w K mg base (L2.CX P w) 1 (He.ma K (He.ga K "OpenFile") "__init__") fd ["self", "number", "access", "reserved"] (sp_OpenFile___init__ K) := by
  refine F.ok (CX := L2.CX P w) sc_OpenFile___init__ (fun vs H Q E h => len_OpenFile___init__ h) fun cdv A outer s H vs Q E hr h => ⟨t_OpenFile___init__ K E, ?_, pure_OpenFile___init__ h⟩
  refine tk_intro (E := E) (takes_of rfl rfl rfl rfl) fun tk => ?_
  exact (pss_cons (x_sfld (F_cls_OpenFile T) (F_noat_OpenFile_number T) (pv 0) (pv 1)) (pss_cons (x_sfld (F_cls_OpenFile T) (F_noat_OpenFile_access T) (pv 0) (pv 2)) (pss_one (x_sfld (F_cls_OpenFile T) (F_noat_OpenFile_reserved T) (pv 0) (pv 3)))))
theorem ok_G_OpenFile___init__ (T : TX K mg) : Gm P w K mg base 1 (He.ma K (He.ga K "OpenFile") "__init__") ["self", "number", "access", "reserved"] [] (sp_OpenFile___init__ K) := by
  obtain ⟨fd, F⟩ := f_OpenFile___init__ T
  obtain ⟨ds, hd, hb⟩ : ∃ ds, Vals ([] : List V) ds ∧ Binds K fd ["self", "number", "access", "reserved"] ds := FunD.binds1 F 4 1 (by intro z; cases z) (by rfl) fun _ _ _ _ _ _ _ us its h1 h2 => match us, h1, its, h2 with | [_, _, _, _], _, [_], _ => ⟨_, rfl, rfl⟩
  exact ⟨fd, ds, fok_OpenFile___init__ T F, hb, hd⟩
theorem ok_G_OpenFile___init___d1 (T : TX K mg) : Gm P w K mg base 1 (He.ma K (He.ga K "OpenFile") "__init__") ["self", "number", "access", "reserved"] [V.int 0] (sp_OpenFile___init__ K) := by
  obtain ⟨fd, F⟩ := f_OpenFile___init__ T
  obtain ⟨ds, hd, hb⟩ : ∃ ds, Vals ([V.int 0] : List V) ds ∧ Binds K fd ["self", "number", "access", "reserved"] ds := FunD.binds1 F 3 0 (by intro z; cases z) (by rfl) fun _ _ _ _ _ _ _ us its h1 h2 => match us, h1, its, h2 with | [_, _, _], _, [_], _ => ⟨_, rfl, rfl⟩
  exact ⟨fd, ds, fok_OpenFile___init__ T F, hb, hd⟩
theorem fok_Handles_fork (T : TX K mg) {fd : FuncData} (F : FunS K d_Handles_fork fd) : FnOk P w K mg base (L2.CX P w) 3 (He.ma K (He.ga K "Handles") "fork") fd ["self"] (sp_Handles_fork K) := by
  have G_Handles___init__ := @ok_G_Handles___init__ P w K mg base T
  have G_OpenFile___init__ := @ok_G_OpenFile___init__ P w K mg base T
  refine F.ok (CX := L2.CX P w) sc_Handles_fork (fun vs H Q E h => len_Handles_fork h) fun cdv A outer s H vs Q E hr h => ⟨t_Handles_fork K E, ?_, pure_Handles_fork h⟩
  refine tk_intro (E := E) (takes_of rfl rfl rfl rfl) fun tk => ?_
  exact (pss_cons (ps_set (i := 1) sc_Handles_fork.nd rfl (Or.inl rfl) (x_make0 (F_mkr_Handles T) G_Handles___init__ (hr.mono (by decide)) (by rfl) (F_glo_Handles T) tk)) (pss_cons (ps_for (passes_of rfl) rfl (pi_range1 (by rfl) (F_free_range T) (pa_cons (x_gint (by rfl) (F_int_HANDLES_16 T)) pa_nil)) (pg_name (i := 2) sc_Handles_fork.nd rfl (Or.inl rfl)) (pss_cons (ps_set (i := 3) sc_Handles_fork.nd rfl (Or.inl rfl) (pe_ix ix_list (x_fld (F_cls_Handles T) (F_noat_Handles_files T) (pv 0)) (pv 2) (fun _ _ => rfl))) (pss_one (ps_if (pt_cmpR op_notN1 (pv 3) pe_non (nomark _)) (pss_one (ps_asg (x_make (F_mkr_OpenFile T) G_OpenFile___init__ (hr.mono (by decide)) (by rfl) (F_glo_OpenFile T) tk (pa_cons (x_fld (F_cls_OpenFile T) (F_noat_OpenFile_number T) (pv 3)) (pa_cons (x_fld (F_cls_OpenFile T) (F_noat_OpenFile_access T) (pv 3)) (pa_cons (x_fld (F_cls_OpenFile T) (F_noat_OpenFile_reserved T) (pv 3)) pa_nil)))) (pg_sub (x_fld (F_cls_Handles T) (F_noat_Handles_files T) (pv 1)) (pv 2) set_list))) pss_nil)))) (pss_one (ps_ret (pv 1)))))
theorem ok_G_Handles_fork (T : TX K mg) : Gm P w K mg base 3 (He.ma K (He.ga K "Handles") "fork") ["self"] [] (sp_Handles_fork K) := by
  obtain ⟨fd, F⟩ := f_Handles_fork T
  obtain ⟨ds, hd, hb⟩ : ∃ ds, Vals ([] : List V) ds ∧ Binds K fd ["self"] ds := ⟨[], .nil, FunD.bindsN F fun _ _ _ _ _ _ us hl => match us, hl with | [_], _ => rfl⟩
  exact ⟨fd, ds, fok_Handles_fork T F, hb, hd⟩
theorem fok_Handles_acquire (T : TX K mg) {fd : FuncData} (F : FunS K d_Handles_acquire fd) : FnOk P w K mg base (L2.CX P w) 3 (He.ma K (He.ga K "Handles") "acquire") fd ["self", "number", "access"] (sp_Handles_acquire K) := by
  have G_OpenFile___init___d1 := @ok_G_OpenFile___init___d1 P w K mg base T
  refine F.ok (CX := L2.CX P w) sc_Handles_acquire (fun vs H Q E h => len_Handles_acquire h) fun cdv A outer s H vs Q E hr h => ⟨t_Handles_acquire K E, ?_, pure_Handles_acquire h⟩
  refine tk_intro (E := E) (takes_of rfl rfl rfl rfl) fun tk => ?_
  exact (pss_cons (ps_for (passes_of rfl) rfl (pi_range1 (by rfl) (F_free_range T) (pa_cons (x_gint (by rfl) (F_int_HANDLES_16 T)) pa_nil)) (pg_name (i := 3) sc_Handles_acquire.nd rfl (Or.inl rfl)) (pss_one (ps_if (pt_cmpR op_isN1 (pe_ix ix_list (x_fld (F_cls_Handles T) (F_noat_Handles_files T) (pv 0)) (pv 3) (fun _ _ => rfl)) pe_non (nomark _)) (pss_cons (ps_asg (x_make (F_mkr_OpenFile T) G_OpenFile___init___d1 (hr.mono (by decide)) (by rfl) (F_glo_OpenFile T) tk (pa_cons (pv 1) (pa_cons (pv 2) pa_nil))) (pg_sub (x_fld (F_cls_Handles T) (F_noat_Handles_files T) (pv 0)) (pv 3) set_list)) (pss_one (ps_ret (pv 3)))) pss_nil))) (pss_one (x_raise rfl tk (F_exc_TooManyOpen T) (F_glo_TooManyOpen T) (by rfl))))
theorem ok_G_Handles_acquire (T : TX K mg) : Gm P w K mg base 3 (He.ma K (He.ga K "Handles") "acquire") ["self", "number", "access"] [] (sp_Handles_acquire K) := by
  obtain ⟨fd, F⟩ := f_Handles_acquire T
  obtain ⟨ds, hd, hb⟩ : ∃ ds, Vals ([] : List V) ds ∧ Binds K fd ["self", "number", "access"] ds := ⟨[], .nil, FunD.bindsN F fun _ _ _ _ _ _ us hl => match us, hl with | [_, _, _], _ => rfl⟩
  exact ⟨fd, ds, fok_Handles_acquire T F, hb, hd⟩
theorem fok__law_fields (T : TX K mg) {fd : FuncData} (F : FunS K d__law_fields fd) : FnOk P w K mg base (L2.CX P w) 1 (He.ga K "_law_fields") fd ["_law_file"] (sp__law_fields K) := by
  refine F.ok (CX := L2.CX P w) sc__law_fields (fun vs H Q E h => len__law_fields h) fun cdv A outer s H vs Q E hr h => ⟨t__law_fields K E, ?_, pure__law_fields h⟩
  refine tk_intro (E := E) (takes_of rfl rfl rfl rfl) fun tk => ?_
  exact (pss_one (ps_ret (pe_lst (pa_cons (x_fld (F_cls_OpenFile T) (F_noat_OpenFile_number T) (pv 0)) (pa_cons (x_fld (F_cls_OpenFile T) (F_noat_OpenFile_access T) (pv 0)) (pa_cons (x_fld (F_cls_OpenFile T) (F_noat_OpenFile_reserved T) (pv 0)) pa_nil))))))
theorem ok_G__law_fields (T : TX K mg) : Gf P w K mg base 1 "_law_fields" ["_law_file"] [] (sp__law_fields K) := by
  obtain ⟨fd, F⟩ := f__law_fields T
  obtain ⟨ds, hd, hb⟩ : ∃ ds, Vals ([] : List V) ds ∧ Binds K fd ["_law_file"] ds := ⟨[], .nil, FunD.bindsN F fun _ _ _ _ _ _ us hl => match us, hl with | [_], _ => rfl⟩
  exact ⟨⟨fd, ds, fok__law_fields T F, hb, hd⟩, F_glo__law_fields T, F.kp⟩
theorem fok_Handles_get (T : TX K mg) {fd : FuncData} (F : FunS K d_Handles_get fd) : FnOk P w K mg base (L2.CX P w) 1 (He.ma K (He.ga K "Handles") "get") fd ["self", "handle"] (sp_Handles_get K) := by
  refine F.ok (CX := L2.CX P w) sc_Handles_get (fun vs H Q E h => len_Handles_get h) fun cdv A outer s H vs Q E hr h => ⟨t_Handles_get K E, ?_, pure_Handles_get h⟩
  refine tk_intro (E := E) (takes_of rfl rfl rfl rfl) fun tk => ?_
  exact (pss_cons (ps_if (PW.pt (pw_or (pt_cmpR op_lt (pv 1) pe_int (nomark _)) (pw_or (pt_cmpR op_ge (pv 1) (x_gint (by rfl) (F_int_HANDLES_16 T)) (nomark _)) (pw_or1 (pt_cmpR op_isN1 (pe_ix ix_list (x_fld (F_cls_Handles T) (F_noat_Handles_files T) (pv 0)) (pv 1) (fun _ _ => rfl)) pe_non (nomark _)))))) (pss_one (x_raise rfl tk (F_exc_BadHandle T) (F_glo_BadHandle T) (by rfl))) pss_nil) (pss_one (ps_ret (pe_ix ix_list (x_fld (F_cls_Handles T) (F_noat_Handles_files T) (pv 0)) (pv 1) (fun _ _ => rfl)))))
theorem ok_G_Handles_get (T : TX K mg) : Gm P w K mg base 1 (He.ma K (He.ga K "Handles") "get") ["self", "handle"] [] (sp_Handles_get K) := by
  obtain ⟨fd, F⟩ := f_Handles_get T
  obtain ⟨ds, hd, hb⟩ : ∃ ds, Vals ([] : List V) ds ∧ Binds K fd ["self", "handle"] ds := ⟨[], .nil, FunD.bindsN F fun _ _ _ _ _ _ us hl => match us, hl with | [_, _], _ => rfl⟩
  exact ⟨fd, ds, fok_Handles_get T F, hb, hd⟩
theorem fok_Handles_free (T : TX K mg) {fd : FuncData} (F : FunS K d_Handles_free fd) : FnOk P w K mg base (L2.CX P w) 2 (He.ma K (He.ga K "Handles") "free") fd ["self", "handle"] (sp_Handles_free K) := by
  have G_Handles_get := @ok_G_Handles_get P w K mg base T
  refine F.ok (CX := L2.CX P w) sc_Handles_free (fun vs H Q E h => len_Handles_free h) fun cdv A outer s H vs Q E hr h => ⟨t_Handles_free K E, ?_, pure_Handles_free h⟩
  refine tk_intro (E := E) (takes_of rfl rfl rfl rfl) fun tk => ?_
  exact (pss_cons (ps_set (i := 2) sc_Handles_free.nd rfl (Or.inl rfl) (x_meth (pv 0) (F_cls_Handles T) (F_meth_Handles_get T) G_Handles_get (hr.mono (by decide)) tk (pa_cons (pv 1) pa_nil))) (pss_cons (ps_asg pe_non (pg_sub (x_fld (F_cls_Handles T) (F_noat_Handles_files T) (pv 0)) (pv 1) set_list)) (pss_one (ps_ret (pv 2)))))
theorem ok_G_Handles_free (T : TX K mg) : Gm P w K mg base 2 (He.ma K (He.ga K "Handles") "free") ["self", "handle"] [] (sp_Handles_free K) := by
  obtain ⟨fd, F⟩ := f_Handles_free T
  obtain ⟨ds, hd, hb⟩ : ∃ ds, Vals ([] : List V) ds ∧ Binds K fd ["self", "handle"] ds := ⟨[], .nil, FunD.bindsN F fun _ _ _ _ _ _ us hl => match us, hl with | [_, _], _ => rfl⟩
  exact ⟨fd, ds, fok_Handles_free T F, hb, hd⟩
theorem fok_Handles_reading (T : TX K mg) {fd : FuncData} (F : FunS K d_Handles_reading fd) : FnOk P w K mg base (L2.CX P w) 2 (He.ma K (He.ga K "Handles") "reading") fd ["self", "handle"] (sp_Handles_reading K) := by
  have G_Handles_get := @ok_G_Handles_get P w K mg base T
  refine F.ok (CX := L2.CX P w) sc_Handles_reading (fun vs H Q E h => len_Handles_reading h) fun cdv A outer s H vs Q E hr h => ⟨t_Handles_reading K E, ?_, pure_Handles_reading h⟩
  refine tk_intro (E := E) (takes_of rfl rfl rfl rfl) fun tk => ?_
  exact (pss_cons (ps_set (i := 2) sc_Handles_reading.nd rfl (Or.inl rfl) (x_meth (pv 0) (F_cls_Handles T) (F_meth_Handles_get T) G_Handles_get (hr.mono (by decide)) tk (pa_cons (pv 1) pa_nil))) (pss_cons (ps_if (pt_cmpR op_eq (x_fld (F_cls_OpenFile T) (F_noat_OpenFile_access T) (pv 2)) pe_str (nomark _)) (pss_one (x_raise rfl tk (F_exc_BadHandle T) (F_glo_BadHandle T) (by rfl))) pss_nil) (pss_one (ps_ret (pv 2)))))
theorem ok_G_Handles_reading (T : TX K mg) : Gm P w K mg base 2 (He.ma K (He.ga K "Handles") "reading") ["self", "handle"] [] (sp_Handles_reading K) := by
  obtain ⟨fd, F⟩ := f_Handles_reading T
  obtain ⟨ds, hd, hb⟩ : ∃ ds, Vals ([] : List V) ds ∧ Binds K fd ["self", "handle"] ds := ⟨[], .nil, FunD.bindsN F fun _ _ _ _ _ _ us hl => match us, hl with | [_, _], _ => rfl⟩
  exact ⟨fd, ds, fok_Handles_reading T F, hb, hd⟩
theorem fok_Handles_writing (T : TX K mg) {fd : FuncData} (F : FunS K d_Handles_writing fd) : FnOk P w K mg base (L2.CX P w) 2 (He.ma K (He.ga K "Handles") "writing") fd ["self", "handle"] (sp_Handles_writing K) := by
  have G_Handles_get := @ok_G_Handles_get P w K mg base T
  refine F.ok (CX := L2.CX P w) sc_Handles_writing (fun vs H Q E h => len_Handles_writing h) fun cdv A outer s H vs Q E hr h => ⟨t_Handles_writing K E, ?_, pure_Handles_writing h⟩
  refine tk_intro (E := E) (takes_of rfl rfl rfl rfl) fun tk => ?_
  exact (pss_cons (ps_set (i := 2) sc_Handles_writing.nd rfl (Or.inl rfl) (x_meth (pv 0) (F_cls_Handles T) (F_meth_Handles_get T) G_Handles_get (hr.mono (by decide)) tk (pa_cons (pv 1) pa_nil))) (pss_cons (ps_if (pt_cmpR op_eq (x_fld (F_cls_OpenFile T) (F_noat_OpenFile_access T) (pv 2)) pe_str (nomark _)) (pss_one (x_raise rfl tk (F_exc_BadHandle T) (F_glo_BadHandle T) (by rfl))) pss_nil) (pss_one (ps_ret (pv 2)))))
theorem ok_G_Handles_writing (T : TX K mg) : Gm P w K mg base 2 (He.ma K (He.ga K "Handles") "writing") ["self", "handle"] [] (sp_Handles_writing K) := by
  obtain ⟨fd, F⟩ := f_Handles_writing T
  obtain ⟨ds, hd, hb⟩ : ∃ ds, Vals ([] : List V) ds ∧ Binds K fd ["self", "handle"] ds := ⟨[], .nil, FunD.bindsN F fun _ _ _ _ _ _ us hl => match us, hl with | [_, _], _ => rfl⟩
  exact ⟨fd, ds, fok_Handles_writing T F, hb, hd⟩
theorem fok_Handles_reserve (T : TX K mg) {fd : FuncData} (F : FunS K d_Handles_reserve fd) : FnOk P w K mg base (L2.CX P w) 3 (He.ma K (He.ga K "Handles") "reserve") fd ["self", "handle", "blocks"] (sp_Handles_reserve K) := by
  have G_Handles_writing := @ok_G_Handles_writing P w K mg base T
  refine F.ok (CX := L2.CX P w) sc_Handles_reserve (fun vs H Q E h => len_Handles_reserve h) fun cdv A outer s H vs Q E hr h => ⟨t_Handles_reserve K E, ?_, pure_Handles_reserve h⟩
  refine tk_intro (E := E) (takes_of rfl rfl rfl rfl) fun tk => ?_
  exact (pss_cons (ps_set (i := 3) sc_Handles_reserve.nd rfl (Or.inl rfl) (x_meth (pv 0) (F_cls_Handles T) (F_meth_Handles_writing T) G_Handles_writing (hr.mono (by decide)) tk (pa_cons (pv 1) pa_nil))) (pss_one (x_sfld (F_cls_OpenFile T) (F_noat_OpenFile_reserved T) (pv 3) (pv 2))))
theorem ok_G_Handles_reserve (T : TX K mg) : Gm P w K mg base 3 (He.ma K (He.ga K "Handles") "reserve") ["self", "handle", "blocks"] [] (sp_Handles_reserve K) := by
  obtain ⟨fd, F⟩ := f_Handles_reserve T
  obtain ⟨ds, hd, hb⟩ : ∃ ds, Vals ([] : List V) ds ∧ Binds K fd ["self", "handle", "blocks"] ds := ⟨[], .nil, FunD.bindsN F fun _ _ _ _ _ _ us hl => match us, hl with | [_, _, _], _ => rfl⟩
  exact ⟨fd, ds, fok_Handles_reserve T F, hb, hd⟩
theorem fok__law_told (T : TX K mg) {fd : FuncData} (F : FunS K d__law_told fd) : FnOk P w K mg base (L2.CX P w) 4 (He.ga K "_law_told") fd ["_law_handles", "_law_kind", "_law_handle", "_law_more", "_law_access"] (sp__law_told K) := by
  have G_Handles_acquire := @ok_G_Handles_acquire P w K mg base T
  have G__law_fields := @ok_G__law_fields P w K mg base T
  have G_Handles_free := @ok_G_Handles_free P w K mg base T
  have G_Handles_get := @ok_G_Handles_get P w K mg base T
  have G_Handles_reading := @ok_G_Handles_reading P w K mg base T
  have G_Handles_writing := @ok_G_Handles_writing P w K mg base T
  have G_Handles_reserve := @ok_G_Handles_reserve P w K mg base T
  refine F.ok (CX := L2.CX P w) sc__law_told (fun vs H Q E h => len__law_told h) fun cdv A outer s H vs Q E hr h => ⟨t__law_told K E, ?_, pure__law_told ⟨F_exm_BadHandle_SegmentError_True T, F_exm_TooManyOpen_SegmentError_True T, F_excC_BadHandle T, F_excC_TooManyOpen T, F_kit_BadHandle_BadHandle_True T, F_kit_BadHandle_TooManyOpen_False T, F_kit_TooManyOpen_BadHandle_False T, F_kit_TooManyOpen_TooManyOpen_True T⟩ h⟩
  refine tk_intro (E := E) (takes_of rfl rfl rfl rfl) fun tk => ?_
  exact (pss_one (ps_try_as (i := 5) (tb := (fun W => (tSeq (tIfS (tTest (tOp rEq (tVar 1) (tC (V.int 0)))) (tRet (tLst (tCons (tC (V.str "handle")) (tCons (tMethG (He.ga K "Handles") ("acquire" : Str) (sp_Handles_acquire K) [] W (tVar 0) (tCons (tVar 3) (tCons (tVar 4) tNil))) tNil)))) tNext) (tSeq (tIfS (tTest (tOp rEq (tVar 1) (tC (V.int 1)))) (tRet (tLst (tCons (tC (V.str "file")) (tCons (tCallG (sp__law_fields K) [] W (tCons (tMethG (He.ga K "Handles") ("free" : Str) (sp_Handles_free K) [] W (tVar 0) (tCons (tVar 2) tNil)) tNil)) tNil)))) tNext) (tSeq (tIfS (tTest (tOp rEq (tVar 1) (tC (V.int 2)))) (tRet (tLst (tCons (tC (V.str "file")) (tCons (tCallG (sp__law_fields K) [] W (tCons (tMethG (He.ga K "Handles") ("get" : Str) (sp_Handles_get K) [] W (tVar 0) (tCons (tVar 2) tNil)) tNil)) tNil)))) tNext) (tSeq (tIfS (tTest (tOp rEq (tVar 1) (tC (V.int 3)))) (tRet (tLst (tCons (tC (V.str "file")) (tCons (tCallG (sp__law_fields K) [] W (tCons (tMethG (He.ga K "Handles") ("reading" : Str) (sp_Handles_reading K) [] W (tVar 0) (tCons (tVar 2) tNil)) tNil)) tNil)))) tNext) (tSeq (tIfS (tTest (tOp rEq (tVar 1) (tC (V.int 4)))) (tRet (tLst (tCons (tC (V.str "file")) (tCons (tCallG (sp__law_fields K) [] W (tCons (tMethG (He.ga K "Handles") ("writing" : Str) (sp_Handles_writing K) [] W (tVar 0) (tCons (tVar 2) tNil)) tNil)) tNil)))) tNext) (tSeq (tDrop (tMethG (He.ga K "Handles") ("reserve" : Str) (sp_Handles_reserve K) [] W (tVar 0) (tCons (tVar 2) (tCons (tVar 3) tNil)))) (tRet (tLst (tCons (tC (V.str "done")) (tCons (tC (V.int 0)) tNil)))))))))))) (ts := (fun a cls d => (tSeq (tAsg (tC (V.str "")) (gName 6)) (tSeq (tIfS (tB (tCB (rIsX K a cls d) (tCons (tVar 5) (tCons (tC (V.ref (He.ga K "BadHandle"))) tNil)))) (tAsg (tOp rAddSt (tVar 6) (tC (V.str "BadHandle"))) (gName 6)) tNext) (tSeq (tIfS (tB (tCB (rIsX K a cls d) (tCons (tVar 5) (tCons (tC (V.ref (He.ga K "TooManyOpen"))) tNil)))) (tAsg (tOp rAddSt (tVar 6) (tC (V.str "TooManyOpen"))) (gName 6)) tNext) (tRet (tLst (tCons (tC (V.str "fault")) (tCons (tVar 6) tNil))))))))) (Wout := (WD E)) rfl rfl sc__law_told.nd rfl rfl ⟨rfl, by decide, .inl (F_glo_SegmentError T)⟩ tk (fun W pn xe tk1 po1 => (pss_cons (ps_if (pt_cmpR op_eq (pv 1) pe_int (nomark _)) (pss_one (ps_ret (pe_lst (pa_cons pe_str (pa_cons (x_meth (pv 0) (F_cls_Handles T) (F_meth_Handles_acquire T) G_Handles_acquire (hr.mono (by decide)) tk1 (pa_cons (pv 3) (pa_cons (pv 4) pa_nil))) pa_nil))))) pss_nil) (pss_cons (ps_if (pt_cmpR op_eq (pv 1) pe_int (nomark _)) (pss_one (ps_ret (pe_lst (pa_cons pe_str (pa_cons (x_call G__law_fields (hr.mono (by decide)) (by rfl) tk1 (pa_cons (x_meth (pv 0) (F_cls_Handles T) (F_meth_Handles_free T) G_Handles_free (hr.mono (by decide)) tk1 (pa_cons (pv 2) pa_nil)) pa_nil)) pa_nil))))) pss_nil) (pss_cons (ps_if (pt_cmpR op_eq (pv 1) pe_int (nomark _)) (pss_one (ps_ret (pe_lst (pa_cons pe_str (pa_cons (x_call G__law_fields (hr.mono (by decide)) (by rfl) tk1 (pa_cons (x_meth (pv 0) (F_cls_Handles T) (F_meth_Handles_get T) G_Handles_get (hr.mono (by decide)) tk1 (pa_cons (pv 2) pa_nil)) pa_nil)) pa_nil))))) pss_nil) (pss_cons (ps_if (pt_cmpR op_eq (pv 1) pe_int (nomark _)) (pss_one (ps_ret (pe_lst (pa_cons pe_str (pa_cons (x_call G__law_fields (hr.mono (by decide)) (by rfl) tk1 (pa_cons (x_meth (pv 0) (F_cls_Handles T) (F_meth_Handles_reading T) G_Handles_reading (hr.mono (by decide)) tk1 (pa_cons (pv 2) pa_nil)) pa_nil)) pa_nil))))) pss_nil) (pss_cons (ps_if (pt_cmpR op_eq (pv 1) pe_int (nomark _)) (pss_one (ps_ret (pe_lst (pa_cons pe_str (pa_cons (x_call G__law_fields (hr.mono (by decide)) (by rfl) tk1 (pa_cons (x_meth (pv 0) (F_cls_Handles T) (F_meth_Handles_writing T) G_Handles_writing (hr.mono (by decide)) tk1 (pa_cons (pv 2) pa_nil)) pa_nil)) pa_nil))))) pss_nil) (pss_cons (ps_expr (x_meth (pv 0) (F_cls_Handles T) (F_meth_Handles_reserve T) G_Handles_reserve (hr.mono (by decide)) tk1 (pa_cons (pv 2) (pa_cons (pv 3) pa_nil)))) (pss_one (ps_ret (pe_lst (pa_cons pe_str (pa_cons pe_int pa_nil)))))))))))) (fun a oe cls d pn hz hf => (pss_cons (ps_set (i := 6) sc__law_told.nd rfl (Or.inl rfl) pe_str) (pss_cons (ps_if (pt_val (pe_callB (x_isE hz hf) (by rfl) (F_free_isinstance T) (by decide +kernel) (pa_cons (pv 5) (pa_cons (x_gref (by rfl) (F_glo_BadHandle T)) pa_nil)))) (pss_one (ps_set (i := 6) sc__law_told.nd rfl (Or.inl rfl) (pe_op x_addS (pv 6) pe_str))) pss_nil) (pss_cons (ps_if (pt_val (pe_callB (x_isE hz hf) (by rfl) (F_free_isinstance T) (by decide +kernel) (pa_cons (pv 5) (pa_cons (x_gref (by rfl) (F_glo_TooManyOpen T)) pa_nil)))) (pss_one (ps_set (i := 6) sc__law_told.nd rfl (Or.inl rfl) (pe_op x_addS (pv 6) pe_str))) pss_nil) (pss_one (ps_ret (pe_lst (pa_cons pe_str (pa_cons (pv 6) pa_nil)))))))))))
theorem ok_G__law_told (T : TX K mg) : Gf P w K mg base 4 "_law_told" ["_law_handles", "_law_kind", "_law_handle", "_law_more", "_law_access"] [] (sp__law_told K) := by
  obtain ⟨fd, F⟩ := f__law_told T
  obtain ⟨ds, hd, hb⟩ : ∃ ds, Vals ([] : List V) ds ∧ Binds K fd ["_law_handles", "_law_kind", "_law_handle", "_law_more", "_law_access"] ds := ⟨[], .nil, FunD.bindsN F fun _ _ _ _ _ _ us hl => match us, hl with | [_, _, _, _, _], _ => rfl⟩
  exact ⟨⟨fd, ds, fok__law_told T F, hb, hd⟩, F_glo__law_told T, F.kp⟩
theorem fok__law_due (T : TX K mg) {fd : FuncData} (F : FunS K d__law_due fd) : FnOk P w K mg base (L2.CX P w) 1 (He.ga K "_law_due") fd ["_law_rows_here", "_law_kind", "_law_handle", "_law_more", "_law_access"] (sp__law_due K) := by
  refine F.ok (CX := L2.CX P w) sc__law_due (fun vs H Q E h => len__law_due h) fun cdv A outer s H vs Q E hr h => ⟨t__law_due K E, ?_, pure__law_due h⟩
  refine tk_intro (E := E) (takes_of rfl rfl rfl rfl) fun tk => ?_
  exact (pss_cons (ps_if (pt_cmpR op_eq (pv 1) pe_int (nomark _)) (pss_cons (ps_if (pt_cmpR (op_notInD (units1 hr)) pe_non (pv 0) (by rfl)) (pss_one (ps_ret (pe_lst (pa_cons pe_str (pa_cons pe_str pa_nil))))) pss_nil) (pss_cons (ps_set (i := 5) sc__law_due.nd rfl (Or.inl rfl) (pe_bm PySem.F.plainAttrs_list PySem.F.slot_list_index PySem.F.type_list_index (x_index hr) (pv 0) (pa_cons pe_non pa_nil))) (pss_cons (ps_asg (pe_lst (pa_cons (pv 3) (pa_cons (pv 4) (pa_cons pe_int pa_nil)))) (pg_sub (pv 0) (pv 5) set_list)) (pss_one (ps_ret (pe_lst (pa_cons pe_str (pa_cons (pv 5) pa_nil)))))))) pss_nil) (pss_cons (ps_if (PW.pt (pw_or (pt_cmpR op_lt (pv 2) pe_int (nomark _)) (pw_or (pt_cmpR op_gt (pv 2) pe_int (nomark _)) (pw_or1 (pt_cmpR op_isN1 (pe_ix ix_list (pv 0) (pv 2) (fun _ _ => rfl)) pe_non (nomark _)))))) (pss_one (ps_ret (pe_lst (pa_cons pe_str (pa_cons pe_str pa_nil))))) pss_nil) (pss_cons (ps_set (i := 6) sc__law_due.nd rfl (Or.inl rfl) (pe_callTy x_listOf (by rfl) (F_free_list T) (by decide +kernel) (pa_cons (pe_ix ix_list (pv 0) (pv 2) (fun _ _ => rfl)) pa_nil))) (pss_cons (ps_if (PW.pt (pw_or (PW.pt (pw_and (pt_cmpR op_eq (pv 1) pe_int (nomark _)) (pw_and1 (pt_cmpR op_eq (pe_ix ix_list (pv 6) pe_int (fun _ _ => rfl)) pe_str (nomark _))))) (pw_or1 (PW.pt (pw_and (pt_cmpR op_gt (pv 1) pe_int (nomark _)) (pw_and1 (pt_cmpR op_eq (pe_ix ix_list (pv 6) pe_int (fun _ _ => rfl)) pe_str (nomark _)))))))) (pss_one (ps_ret (pe_lst (pa_cons pe_str (pa_cons pe_str pa_nil))))) pss_nil) (pss_cons (ps_if (pt_cmpR op_eq (pv 1) pe_int (nomark _)) (pss_one (ps_asg pe_non (pg_sub (pv 0) (pv 2) set_list))) pss_nil) (pss_cons (ps_if (pt_cmpR op_eq (pv 1) pe_int (nomark _)) (pss_cons (ps_asg (pe_lst (pa_cons (pe_ix ix_list (pv 6) pe_int (fun _ _ => rfl)) (pa_cons (pe_ix ix_list (pv 6) pe_int (fun _ _ => rfl)) (pa_cons (pv 3) pa_nil)))) (pg_sub (pv 0) (pv 2) set_list)) (pss_one (ps_ret (pe_lst (pa_cons pe_str (pa_cons pe_int pa_nil)))))) pss_nil) (pss_one (ps_ret (pe_lst (pa_cons pe_str (pa_cons (pv 6) pa_nil)))))))))))
theorem ok_G__law_due (T : TX K mg) : Gf P w K mg base 1 "_law_due" ["_law_rows_here", "_law_kind", "_law_handle", "_law_more", "_law_access"] [] (sp__law_due K) := by
  obtain ⟨fd, F⟩ := f__law_due T
  obtain ⟨ds, hd, hb⟩ : ∃ ds, Vals ([] : List V) ds ∧ Binds K fd ["_law_rows_here", "_law_kind", "_law_handle", "_law_more", "_law_access"] ds := ⟨[], .nil, FunD.bindsN F fun _ _ _ _ _ _ us hl => match us, hl with | [_, _, _, _, _], _ => rfl⟩
  exact ⟨⟨fd, ds, fok__law_due T F, hb, hd⟩, F_glo__law_due T, F.kp⟩
theorem fok__law_is_integer (T : TX K mg) {fd : FuncData} (F : FunS K d__law_is_integer fd) : FnOk P w K mg base (L2.CX P w) 1 (He.ga K "_law_is_integer") fd ["_law_actual"] (sp__law_is_integer K) := by
  refine F.ok (CX := L2.CX P w) sc__law_is_integer (fun vs H Q E h => len__law_is_integer h) fun cdv A outer s H vs Q E hr h => ⟨t__law_is_integer K E, ?_, pure__law_is_integer h⟩
  refine tk_intro (E := E) (takes_of rfl rfl rfl rfl) fun tk => ?_
  exact (pss_one (ps_ret (pe_and (pe_callB call_isi (by rfl) (F_free_isinstance T) (by decide +kernel) (pa_cons (pv 0) (pa_cons (pe_bltn (v := .ty "int") (by rfl) (F_free_int T) (by decide +kernel) rfl) pa_nil))) (pe_one (pe_not (pe_callB call_isi (by rfl) (F_free_isinstance T) (by decide +kernel) (pa_cons (pv 0) (pa_cons (pe_bltn (v := .ty "bool") (by rfl) (F_free_bool T) (by decide +kernel) rfl) pa_nil))))))))
theorem ok_G__law_is_integer (T : TX K mg) : Gf P w K mg base 1 "_law_is_integer" ["_law_actual"] [] (sp__law_is_integer K) := by
  obtain ⟨fd, F⟩ := f__law_is_integer T
  obtain ⟨ds, hd, hb⟩ : ∃ ds, Vals ([] : List V) ds ∧ Binds K fd ["_law_actual"] ds := ⟨[], .nil, FunD.bindsN F fun _ _ _ _ _ _ us hl => match us, hl with | [_], _ => rfl⟩
  exact ⟨⟨fd, ds, fok__law_is_integer T F, hb, hd⟩, F_glo__law_is_integer T, F.kp⟩
theorem fok_law (T : TX K mg) {fd : FuncData} (F : FunS K d_law fd) : FnOk P w K mg base (L2.CX P w) 5 (He.ga K "law") fd ["_law_script"] (sp_law K) := by
  have G__law_row := @ok_G__law_row P w K mg base T
  have G_Handles___init__ := @ok_G_Handles___init__ P w K mg base T
  have G__law_agrees := @ok_G__law_agrees P w K mg base T
  have G__law_copy := @ok_G__law_copy P w K mg base T
  have G_Handles_fork := @ok_G_Handles_fork P w K mg base T
  have G__law_told := @ok_G__law_told P w K mg base T
  have G__law_due := @ok_G__law_due P w K mg base T
  have G__law_is_integer := @ok_G__law_is_integer P w K mg base T
  have G_OpenFile___init___d1 := @ok_G_OpenFile___init___d1 P w K mg base T
  have G__law_fields := @ok_G__law_fields P w K mg base T
  have G_OpenFile___init__ := @ok_G_OpenFile___init__ P w K mg base T
  refine F.ok (CX := L2.CX P w) sc_law (fun vs H Q E h => len_law h) fun cdv A outer s H vs Q E hr h => ⟨t_law K E, ?_, pure_law h⟩
  refine tk_intro (E := E) (takes_of rfl rfl rfl rfl) fun tk => ?_
  exact (pss_cons (ps_set (i := 1) sc_law.nd rfl (Or.inl rfl) (x_call G__law_row (hr.mono (by decide)) (by rfl) tk (pa_cons (pv 0) (pa_cons pe_int pa_nil)))) (pss_cons (ps_set (i := 2) sc_law.nd rfl (Or.inl rfl) (x_make0 (F_mkr_Handles T) G_Handles___init__ (hr.mono (by decide)) (by rfl) (F_glo_Handles T) tk)) (pss_cons (ps_set (i := 3) sc_law.nd rfl (Or.inl rfl) (pe_op op_rep (pe_lst (pa_cons pe_non pa_nil)) pe_int)) (pss_cons (ps_if (PW.pt (pw_or (pt_cmpR op_ne (x_gint (by rfl) (F_int_HANDLES_16 T)) pe_int (nomark _)) (pw_or1 (pt_not (pt_val (x_call G__law_agrees (hr.mono (by decide)) (by rfl) tk (pa_cons (pv 2) (pa_cons (pv 3) pa_nil)))))))) (pss_one (ps_ret pe_bl)) pss_nil) (pss_cons (ps_set (i := 4) sc_law.nd rfl (Or.inl rfl) (pe_op op_mod (pe_callTy x_int (by rfl) (F_free_int T) (by decide +kernel) (pa_cons (pv 1) pa_nil)) pe_int)) (pss_cons (ps_for (passes_of rfl) rfl (pi_range1 (by rfl) (F_free_range T) (pa_cons pe_int pa_nil)) (pg_name (i := 5) sc_law.nd rfl (Or.inl rfl)) (pss_cons (ps_set (i := 1) sc_law.nd rfl (Or.inl rfl) (x_call G__law_row (hr.mono (by decide)) (by rfl) tk (pa_cons (pv 0) (pa_cons (pe_op op_add pe_int (pv 5)) pa_nil)))) (pss_cons (ps_set (i := 6) sc_law.nd rfl (Or.inl rfl) (pe_op op_mod (pe_callTy x_int (by rfl) (F_free_int T) (by decide +kernel) (pa_cons (pv 1) pa_nil)) pe_int)) (pss_cons (ps_set (i := 7) sc_law.nd rfl (Or.inl rfl) (pe_op op_fdiv (pe_callTy x_int (by rfl) (F_free_int T) (by decide +kernel) (pa_cons (pv 1) pa_nil)) pe_int)) (x_cut (ps_if (pt_cmpR op_lt (pe_op op_mod (pv 7) pe_int) (pv 4) (nomark _)) (pss_one (ps_set (i := 6) sc_law.nd rfl (Or.inl rfl) pe_int)) pss_nil) (pss_cons (ps_set (i := 8) sc_law.nd rfl (Or.inl rfl) (pe_ix ix_list (pe_lst (pa_cons (pe_op op_mod (pe_op op_fdiv (pv 7) pe_int) pe_int) (pa_cons (pe_op op_mod (pe_op op_fdiv (pv 7) pe_int) pe_int) (pa_cons (pe_op op_sub (pe_op op_mod (pe_op op_fdiv (pv 7) pe_int) pe_int) pe_int) (pa_cons (pe_op op_fdiv (pv 7) pe_int) pa_nil))))) (pe_op op_mod (pe_op op_fdiv (pv 7) pe_int) pe_int) (fun _ _ => rfl))) (pss_cons (ps_set (i := 9) sc_law.nd rfl (Or.inl rfl) (pe_op op_add pe_int (pe_op op_mod (pe_op op_fdiv (pv 7) pe_int) (pe_ix ix_list (pe_lst (pa_cons pe_int (pa_cons pe_int pa_nil))) (pe_op op_mod (pe_op op_fdiv (pv 7) pe_int) pe_int) (fun _ _ => rfl))))) (pss_cons (ps_set (i := 10) sc_law.nd rfl (Or.inl rfl) (pe_ix ix_list (pe_lst (pa_cons pe_str (pa_cons pe_str (pa_cons pe_str pa_nil)))) (pe_op op_mod (pe_op op_fdiv (pv 7) pe_int) pe_int) (fun _ _ => rfl))) (x_cut (ps_set (i := 11) sc_law.nd rfl (Or.inl rfl) pe_non) (pss_cons (ps_set (i := 12) sc_law.nd rfl (Or.inl rfl) (x_call G__law_copy (hr.mono (by decide)) (by rfl) tk (pa_cons (pv 3) pa_nil))) (x_cut (ps_if (pt_cmpR op_eq (pe_op op_mod (pv 7) pe_int) pe_int (nomark _)) (pss_cons (ps_set (i := 11) sc_law.nd rfl (Or.inl rfl) (pv 2)) (pss_one (ps_set (i := 2) sc_law.nd rfl (Or.inl rfl) (x_meth0 (pv 11) (F_cls_Handles T) (F_meth_Handles_fork T) G_Handles_fork (hr.mono (by decide)) tk)))) pss_nil) (pss_cons (ps_set (i := 13) sc_law.nd rfl (Or.inl rfl) (x_call G__law_told (hr.mono (by decide)) (by rfl) tk (pa_cons (pv 2) (pa_cons (pv 6) (pa_cons (pv 8) (pa_cons (pv 9) (pa_cons (pv 10) pa_nil))))))) (pss_cons (ps_if (PW.pt (pw_or (pt_cmpR (op_neD hr.units) (pv 13) (x_call G__law_due (hr.mono (by decide)) (by rfl) tk (pa_cons (pv 3) (pa_cons (pv 6) (pa_cons (pv 8) (pa_cons (pv 9) (pa_cons (pv 10) pa_nil)))))) (nomark _)) (pw_or1 (pt_not (pt_val (x_call G__law_agrees (hr.mono (by decide)) (by rfl) tk (pa_cons (pv 2) (pa_cons (pv 3) pa_nil)))))))) (pss_one (ps_ret pe_bl)) pss_nil) (x_cut (ps_if (PW.pt (pw_and (pt_cmpR op_eq (pv 6) pe_int (nomark _)) (pw_and (pt_cmpR op_eq (pe_ix ix_list (pv 13) pe_int (fun _ _ => rfl)) pe_str (nomark _)) (pw_and1 (pt_not (pt_val (x_call G__law_is_integer (hr.mono (by decide)) (by rfl) tk (pa_cons (pe_ix ix_list (pv 13) pe_int (fun _ _ => rfl)) pa_nil)))))))) (pss_one (ps_ret pe_bl)) pss_nil) (pss_one (ps_if (PW.pt (pw_and (pt_cmpR op_notN1 (pv 11) pe_non (nomark _)) (pw_and1 (pt_not (pt_val (x_call G__law_agrees (hr.mono (by decide)) (by rfl) tk (pa_cons (pv 11) (pa_cons (pv 12) pa_nil)))))))) (pss_one (ps_ret pe_bl)) pss_nil)))))))))))))))) (pss_cons (ps_set (i := 14) sc_law.nd rfl (Or.inl rfl) (x_make (F_mkr_OpenFile T) G_OpenFile___init___d1 (hr.mono (by decide)) (by rfl) (F_glo_OpenFile T) tk (pa_cons pe_int (pa_cons pe_str pa_nil)))) (pss_one (ps_ret (pe_and (pe_cmpR (op_eqD hr.units) (x_call G__law_fields (hr.mono (by decide)) (by rfl) tk (pa_cons (pv 14) pa_nil)) (pe_lst (pa_cons pe_int (pa_cons pe_str (pa_cons pe_int pa_nil)))) (nomark _)) (pe_one (pe_cmpR (op_eqD hr.units) (x_call G__law_fields (hr.mono (by decide)) (by rfl) tk (pa_cons (x_make (F_mkr_OpenFile T) G_OpenFile___init__ (hr.mono (by decide)) (by rfl) (F_glo_OpenFile T) tk (pa_cons pe_int (pa_cons pe_str (pa_cons pe_int pa_nil)))) pa_nil)) (pe_lst (pa_cons pe_int (pa_cons pe_str (pa_cons pe_int pa_nil)))) (nomark _)))))))))))))
end
def loose0 : List Str := ["__name__", "SegmentError", "BadHandle", "TooManyOpen", "HANDLES", "OpenFile", "Handles", "_law_row", "_law_is_integer", "_law_rows", "_law_numbers", "_law_fields", "_law_told", "_law_due", "_law_agrees", "_law_copy"]
abbrev loose : List Str := loose0
abbrev R : PySem.W.OpenRow := PySem.W.OpenLaw.row PySem.Challenge.rw_segmentfs_k61_handles_by_a_list
abbrev vw : Program := PySem.W.view R.prog [18]
abbrev hk : PySem.W.Hook := hookS 5 bits fns
def ob (s : PySem.W.SharedT) : He.AlD := obsSG 5 bits fns (HandSHeadRun.getT s)
theorem ob_eq (s : PySem.W.SharedT) : ob s = hk.obs s.abs := obsSG_eq (HandSHeadRun.getT_eq s)
theorem run (w : World) : HandSHeadRun.RunEq R vw hk ob 6000 loose w := by
  intro os
  kernel_rfl
theorem facts {P : Program} {w : World} {K : Frag} {h : Heap} {mg : Str → Option Value} {f : Addr} (X : K.In h) (G : h.Ns mainGlobals mg) (hfa : mg ("law" : Str) = some (.ref f)) (c : SaysS bits fns K) :
    ∃ fd : FuncData, (∀ (s : Shared) (v : Value), BindsTo s fd ⟨[v], []⟩ [("_law_script", v)]) ∧ ∀ base : Heap, K.In base → base.Ns mainGlobals mg → FnOk P w K mg base CX0 5 f fd ["_law_script"] (fun vs H Q _ => sp_law K vs H Q E0) := by
  have T : TX K mg := ⟨c, h, X, G⟩
  obtain ⟨fd, F⟩ := f_law T
  have e := hfa.symm.trans (F_glo_law T)
  cases e
  have b := FunD.bindsA (ps := ["_law_script"]) F fun _ _ _ _ _ _ us hl => match us, hl with | [_], _ => rfl
  exact ⟨fd, fun s v => b s [v] rfl, fun base _ _ => Sg.FnOk.e0 (fok_law (base := base) T F)⟩
end Sg
open PySem PySem.W PySem.Calls PyProof.Rows Sg
theorem PySem.Challenge.cw_segmentfs_k61_handles_by_a_list_holds : PySem.Challenge.rw_segmentfs_k61_handles_by_a_list.Holds := by
  w_on; o_law
  refine HandSHeadRun.head_any (r := OpenLaw.row PySem.Challenge.rw_segmentfs_k61_handles_by_a_list) (q := view (OpenLaw.row PySem.Challenge.rw_segmentfs_k61_handles_by_a_list).prog [18]) (H := Sg.hk) (ob := Sg.ob) (M := 6000) (loose := Sg.loose) (d := HandSHeadRun.topDef (OpenLaw.row PySem.Challenge.rw_segmentfs_k61_handles_by_a_list).prog 18) (kwd := []) Sg.ob_eq
    (by kernel_rfl) (fun s => by kernel_rfl) Sg.run (by kernel_rfl) (by kernel_rfl) (by kernel_rfl) (by rfl) (by first | assumption | decide +kernel) (by decide +kernel) ⟨rfl, rfl, rfl, rfl, rfl, by decide +kernel⟩ ?hw ?hc
  case hw => w_witness2
  case hc =>
    refine L2.walk_ofE (l := PySem.Challenge.rw_segmentfs_k61_handles_by_a_list) (n := 63) (k := 5) (x := "_law_script") (CX := L2.CX0) rfl (by decide) (by kernel_rfl) ⟨rfl, by decide, by decide⟩ ?F (fun _ _ _ _ z => z)
    intro w mg fa h Y G hmg0
    obtain ⟨K, KX, c⟩ := Y
    have hmg : mg ("law" : PySem.Str) = some (.ref fa) := by
      have e : (HandSHeadRun.topDef (OpenLaw.row PySem.Challenge.rw_segmentfs_k61_handles_by_a_list).prog 18).name = ("law" : PySem.Str) := by kernel_rfl
      rw [← e]
      exact hmg0
    obtain ⟨fd, hb, hF⟩ := Sg.facts (P := (PySem.Challenge.rw_segmentfs_k61_handles_by_a_list).prog) (w := w) KX G hmg c
    exact ⟨K, fd, _, KX, hb, fun H a ns hl hO hS => ⟨a, ns, rfl, hS, fun _ => rfl⟩, hF⟩
