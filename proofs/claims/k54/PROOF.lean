import PyProof.Rows.All
import Wide.All
import OpenK.AllK
import Wide.FinOn
import HandS.ForMost
import HandS.ForExc
import HandS.Steps
import HandS.Style
import HandS.TupMul
import HandS.TupAny
import HandS.Deep
import HandS.SortInts
import HandS.Property
import HandS.Defaults
import HandS.IsInst
import HandS.ExcIs
import HandS.CallSlots
import HandS.Strs
import HandS.SetBool
import HandS.StrMore
import HandS.Codes
import HandS.Replace
import HandS.Head0
import HandS.Head1
import HandS.Head2
import HandS.HeadEnd
import HandS.HeadHook1
import HandS.HeadHook2
import PySem.Challenge.RW_segmentfs_k54_read_paths
set_option Elab.async false
set_option linter.all false
set_option maxRecDepth 100000
set_option maxHeartbeats 4000000
namespace Sg
/-! Own work: short rules over the hand layer, one name each, as the printing program wants them. -/
open PySem PySem.Spec L2
abbrev Frag := PySem.W.Frag
abbrev St := L2.St
/-! ### what is wanted of an exception -/
abbrev WD (E : XK) : WX := fun cls d _ H => E cls d H
abbrev WF : WX := fun _ _ _ _ => False
def V2 (a : Addr) : Value := .ref a
section rules
variable {X : Cx} {e : Expr} {pos apos p : Pos} {ta tb te tv : TE} {t : TA} {a b o : Expr} {es : List Expr}
theorem x_gint {x : Str} {i : Int} (hg : Gl X x) (h : ∃ t, X.mg x = some (.int i t)) (hd : (x == ("__debug__" : Str)) = false := by decide) : PE X (.Name x pos) (tC (.int i)) := by
  obtain ⟨t, h⟩ := h
  exact pe_glob hg h ⟨t, rfl⟩ hd
theorem x_gstr {x z : Str} (hg : Gl X x) (h : ∃ t, X.mg x = some (.str z t)) (hd : (x == ("__debug__" : Str)) = false := by decide) : PE X (.Name x pos) (tC (.str z)) := by
  obtain ⟨t, h⟩ := h
  exact pe_glob hg h ⟨t, rfl⟩ hd
theorem x_gref {x : Str} {a : Addr} (hg : Gl X x) (h : X.mg x = some (.ref a)) (hd : (x == ("__debug__" : Str)) = false := by decide) : PE X (.Name x pos) (tC (.ref a)) := pe_glob hg h rfl hd
/-! ### fields of instances: the class's facts are spent in the derivation -/
def tFldC (C : Addr) (ta : TE) (f : Str) : TE := fun σ H Q => ta σ H fun x H1 => ∃ a dx fs v, x = .ref a ∧ H1 a = some (.ins C dx fs) ∧ fs.lookup f = some v ∧ Q v H1
theorem x_fld {C : Addr} {f : Str} (c : Cls X.K C) (n : NoAttr X.K C f) (he : PE X e ta) (hb : attributeBase e f X.env (eval e X.env) = eval e X.env := by rfl) : PE X (.Attribute e f pos) (tFldC C ta f) := by
  refine ⟨fun pins s σ H Q I h => attr_of hb (thn (he.run pins s σ H _ I h) ?_)⟩
  rintro u s1 ⟨x, H1, I1, rx, a, dx, fs, v, rfl, ea, l, q⟩
  obtain rfl : u = Value.ref a := rx
  exact getattr_ok I1 ea c n l fun _ _ I2 ru => ⟨v, H1, I2, ru, q⟩
def sFldC (C : Addr) (ta tv : TE) (f : Str) : TS := fun D σ H => tv σ H fun y H1 => ta σ H1 fun x H2 => ∃ a dx fs, x = .ref a ∧ H2 a = some (.ins C dx fs) ∧ fs.length < 1000 ∧ D.nx σ (upd H2 a (.ins C dx (putF f y fs)))
theorem x_sfld {C : Addr} {f : Str} {value : Expr} {pos' : Pos} (c : Cls X.K C) (n : NoAttr X.K C f) (ha : PE X o ta) (hv : PE X value tv) (hs : swapsWith value (some (.Attribute o f pos')) pos.line X.env = pure false := by rfl) :
    PS X (.Assign [.Attribute o f pos'] value pos) (sFldC C ta tv f) := by
  refine ⟨fun pins s σ H D I h => plainObj_wpAny_Assign_Attribute (thn (hv.run pins s σ H _ I h) ?_) hs⟩
  rintro u s1 ⟨y, H1, I1, ry, q⟩
  refine thn (ha.run pins s1 σ H1 _ I1 q) ?_
  rintro ov s2 ⟨x, H2, I2, rx, a, dx, fs, rfl, ea, l, q2⟩
  obtain rfl : ov = Value.ref a := rx
  exact setattr_ok I2 ea c n l ry fun s3 I3 => ⟨σ, _, I3, q2⟩
def sFldAugC (C : Addr) (ta tv : TE) (rd : V → V → Hp → VK → Prop) (f : Str) : TS := fun D σ H => ta σ H fun x H1 => ∃ a dx fs v, x = .ref a ∧ H1 a = some (.ins C dx fs) ∧ fs.lookup f = some v ∧
  tv σ H1 fun y H2 => rd v y H2 fun z H3 => ∃ dx' fs', H3 a = some (.ins C dx' fs') ∧ fs'.length < 1000 ∧ D.nx σ (upd H3 a (.ins C dx' (putF f z fs')))
theorem x_sfldA {C : Addr} {f : Str} {value : Expr} {tpos : Pos} {op : Operator} {rd : V → V → Hp → VK → Prop} (c : Cls X.K C) (n : NoAttr X.K C f) (ha : PE X o ta) (hv : PE X value tv) (hop : InOp X op rd) :
    PS X (.AugAssign (.Attribute o f tpos) op value pos) (sFldAugC C ta tv rd f) := by
  refine ⟨fun pins s σ H D I h => wpAny_AugAssign_AttributeAny (thn (ha.run pins s σ H _ I h) ?_)⟩
  rintro ov s1 ⟨x, H1, I1, rx, a, dx, fs, v, rfl, ea, l, q⟩
  obtain rfl : ov = Value.ref a := rx
  refine getattr_ok I1 ea c n l fun u s2 I2 ru => thn (hv.run pins s2 σ H1 _ I2 q) ?_
  rintro w3 s3 ⟨y, H2, I3, ry, q3⟩
  refine thn (hop pins s3 σ H2 v y u w3 _ I3 ru ry q3) ?_
  rintro w4 s4 ⟨z, H3, I4, rz, dx', fs', ea', l', q4⟩
  exact setattr_ok I4 ea' c n l' rz fun s5 I5 => ⟨σ, _, I5, q4⟩
/-! ### operators under a name -/
def rAddSt : R2 := fun x y H Q => ∃ i j, x = .str i ∧ y = .str j ∧ i.length + j.length ≤ sizeLine ∧ Q (.str (i ++ j)) H
theorem x_addS : OpR X (binaryOp .Add) rAddSt := op_add_str
def rIsRef : R2 := fun x y H Q => ∃ a b oa ob, x = .ref a ∧ y = .ref b ∧ H a = some oa ∧ isObj oa = true ∧ H b = some ob ∧ isObj ob = true ∧ Q (.bl (decide (a = b))) H
def rSlS : V → Option Int → Option Int → Hp → VK → Prop := fun x lo hi H Q => ∃ z, x = .str z ∧ z.length ≤ sizeLine ∧ Q (.str (cutS z lo hi)) H
theorem x_slS : SlR X rSlS := sl_str
/-! ### built-ins under a name -/
def rLenQ (K : Frag) : List V → Hp → VK → Prop := fun xs H Q => ∃ p ys, xs = [.ref p] ∧ (SqL K H p ys ∨ SqT K H p ys) ∧ Q (.int ys.length) H
theorem x_lenQ : CallR X (.builtin "len") (rLenQ X.K) := call_len_seq
def rLenS : List V → Hp → VK → Prop := fun xs H Q => ∃ z, xs = [.str z] ∧ z.length ≤ sizeLine ∧ Q (.int z.length) H
theorem x_lenS : CallR X (.builtin "len") rLenS := call_len_str
def rLenD : List V → Hp → VK → Prop := fun xs H Q => ∃ a kvs, xs = [V.ref a] ∧ H a = some (.dK kvs) ∧ Q (.int kvs.length) H
theorem x_lenD : CallR X (.builtin "len") rLenD := call_lenD
def rInt : List V → Hp → VK → Prop := fun xs H Q => (∃ i, xs = [.int i] ∧ Q (.int i) H) ∨ ∃ k, xs = [.bl k] ∧ Q (.int (if k then 1 else 0)) H
theorem x_int : CallR X (.type "int") rInt := call_int1
def rOrd : List V → Hp → VK → Prop := fun xs H Q => ∃ x, xs = [.str x] ∧ x.length = 1 ∧ Q (.int (x.cps.getD 0 0 : Nat)) H
theorem x_ord : CallR X (.builtin "ord") rOrd := call_ord
def rMin2 : List V → Hp → VK → Prop := fun xs H Q => ∃ i j, xs = [.int i, .int j] ∧ Q (.int (if j < i then j else i)) H
theorem x_min2 (hc : X.calm = true) : CallR X (.builtin "min") rMin2 := call_min2 hc
def rMax2 : List V → Hp → VK → Prop := fun xs H Q => ∃ i j, xs = [.int i, .int j] ∧ Q (.int (if j > i then j else i)) H
theorem x_max2 (hc : X.calm = true) : CallR X (.builtin "max") rMax2 := call_max2 hc
def rListOf (K : Frag) : List V → Hp → VK → Prop := fun xs H Q => ∃ p ys, xs = [.ref p] ∧ (SqL K H p ys ∨ SqT K H p ys) ∧ ∀ l, H l = none → Q (.ref l) (upd H l (.lst ys))
theorem x_listOf : CallR X (.type "list") (rListOf X.K) := call_list_of
def rTupOf (K : Frag) : List V → Hp → VK → Prop := fun xs H Q => ∃ p ys, xs = [.ref p] ∧ ((SqL K H p ys ∧ ∀ l, H l = none → Q (.ref l) (upd H l (.tup ys))) ∨ (SqT K H p ys ∧ Q (.ref p) H))
theorem x_tupOf : CallR X (.type "tuple") (rTupOf X.K) := call_tuple_of
theorem x_index {k : Nat} (hr : Room k X.A) : MtR X "list.index" (rIndexD X.K) := mt_indexD (by have := hr.un; omega)
theorem units1 {k : Nat} {A : Around} (r : Room k A) : A.units + 65 < cLine := by have := r.un; omega
def rSplit : V → List V → Hp → VK → Prop := fun x xs H Q => ∃ a b, x = .str a ∧ xs = [.str b] ∧ (b.length == 0) = false ∧ a.length + 2 ≤ sizeLine ∧ ∀ p, H p = none → Q (.ref p) (upd H p (.lst ((Txt.split a b).map V.str)))
/-! ### own defs, by what they promise: G of the callee -/
/-- the def x of the module: dvs fill up its parameters -/
structure Gf (P : Program) (w : World) (K : Frag) (mg : Str → Option Value) (base : Heap) (k : Nat) (x : Str) (ps : List Str) (dvs : List V) (sp : Sp) : Prop where
  ok : ∃ fd ds, FnOk P w K mg base (L2.CX P w) k (He.ga K x) fd ps sp ∧ Binds K fd ps ds ∧ Vals dvs ds
  hm : mg x = some (.ref (He.ga K x))
  hk : PySem.W.keepIn K (.ref (He.ga K x)) = true
/-- a def at f -/
structure Gm (P : Program) (w : World) (K : Frag) (mg : Str → Option Value) (base : Heap) (k : Nat) (f : Addr) (ps : List Str) (dvs : List V) (sp : Sp) : Prop where
  ok : ∃ fd ds, FnOk P w K mg base (L2.CX P w) k f fd ps sp ∧ Binds K fd ps ds ∧ Vals dvs ds
def tCallG (sp : Sp) (dvs : List V) (W : WX) (t : TA) : TE := fun σ H Q => t σ H fun vs H1 => sp (vs ++ dvs) H1 Q fun cls d H2 => W cls d σ H2
variable {k : Nat} {x : Str} {ps : List Str} {dvs : List V} {sp : Sp} {W : WX} {C m : Str}
theorem x_call (G : Gf X.prog X.w X.K X.mg X.base k x ps dvs sp) (hr : Room k X.A) (hg : Gl X x) (tk : Takes X W) (ha : PA X (e :: es) t) (hdb : (x == ("__debug__" : Str)) = false := by decide)
    (he : starEach (e :: es) X.env = (false, eval e X.env) :: starEach es X.env := by rfl) (hpl : (backTo pos (starEach es X.env)).any (·.1) = false := by rfl) : PE X (.Call (.Name x p) (e :: es) [] pos) (tCallG sp dvs W t) := by
  obtain ⟨fd, ds, F, hb, hd⟩ := G.ok
  exact pe_callSD F hr hg G.hm G.hk hb hd (fun σ => passAt tk σ) ha hdb he hpl
theorem x_call0 (G : Gf X.prog X.w X.K X.mg X.base k x ps dvs sp) (hr : Room k X.A) (hg : Gl X x) (tk : Takes X W) (hdb : (x == ("__debug__" : Str)) = false := by decide) : PE X (.Call (.Name x p) [] [] pos) (tCallG sp dvs W tNil) := by
  obtain ⟨fd, ds, F, hb, hd⟩ := G.ok
  refine ⟨fun pins s σ H Q I h => wpAny_Call_Name_kw (ld_glob I hg G.hm ?_ hdb)⟩
  exact PySem.W.callWith_K0 I.kIn G.hk (run_fnSD (us := []) (E := WE W) F hr hb hd (passAt tk σ) I .nil h)
def tMethG (C : Addr) (m : Str) (sp : Sp) (dvs : List V) (W : WX) (ta : TE) (t : TA) : TE := fun σ H Q => ta σ H fun x H1 => ∃ a dx fs, x = .ref a ∧ H1 a = some (.ins C dx fs) ∧ fs.lookup m = none ∧
  t σ H1 fun vs H2 => sp (x :: (vs ++ dvs)) H2 Q fun cls d H3 => W cls d σ H3
theorem x_meth {pl : Sem Bool} (he : PE X o ta) (c : Cls X.K (He.ga X.K C)) (hm : Meth X.K (He.ga X.K C) m (He.ma X.K (He.ga X.K C) m)) (G : Gm X.prog X.w X.K X.mg X.base k (He.ma X.K (He.ga X.K C) m) ps dvs sp) (hr : Room k X.A) (tk : Takes X W) (ha : PA X (e :: es) t)
    (hst : starEach (e :: es) X.env = (false, eval e X.env) :: starEach es X.env := by rfl) (hpl : (backTo pos (starEach es X.env)).any (·.1) = false := by rfl)
    (ht : eval (.Call (.Attribute o m apos) (e :: es) [] pos) X.env = (do
      let ov ← eval o X.env
      standAt apos.atName
      let (f, first) ← holding [ov] (getMethod ov m pl)
      callWith pos f first (backTo pos (starEach (e :: es) X.env)) (backToKw pos (keywordEach [] X.env))) := by rfl) :
    PE X (.Call (.Attribute o m apos) (e :: es) [] pos) (tMethG (He.ga X.K C) m sp dvs W ta t) := by
  obtain ⟨fd, ds, F, hb, hd⟩ := G.ok
  refine ⟨fun pins s σ H Q I h => PySem.W.methodCall_KW (pl := pl) (thn (he.run pins s σ H _ I h) ?_) ht⟩
  rintro u s1 ⟨x, H1, I1, rx, a, dx, fs, rfl, ea, l, q⟩
  obtain rfl : u = Value.ref a := rx
  refine getmeth_ok I1 ea c hm l (PySem.W.callWith_K (first := [.ref a]) (h₀ := X.base) I.ok.mod.kin hm.kp (thn (ha.run pos pins s1 σ H1 _ I1 q) ?_) hst hpl)
  rintro us s2 ⟨vs, H2, I2, r, q2⟩
  exact ⟨I2.kIn, run_fnSD (us := .ref a :: us) (vs := .ref a :: vs) (E := WE W) F hr hb hd (passAt tk σ) I2 (.cons rfl r) q2⟩
theorem x_meth0 {pl : Sem Bool} (he : PE X o ta) (c : Cls X.K (He.ga X.K C)) (hm : Meth X.K (He.ga X.K C) m (He.ma X.K (He.ga X.K C) m)) (G : Gm X.prog X.w X.K X.mg X.base k (He.ma X.K (He.ga X.K C) m) ps dvs sp) (hr : Room k X.A) (tk : Takes X W)
    (ht : eval (.Call (.Attribute o m apos) [] [] pos) X.env = (do
      let ov ← eval o X.env
      standAt apos.atName
      let (f, first) ← holding [ov] (getMethod ov m pl)
      callWith pos f first (backTo pos (starEach [] X.env)) (backToKw pos (keywordEach [] X.env))) := by rfl) :
    PE X (.Call (.Attribute o m apos) [] [] pos) (tMethG (He.ga X.K C) m sp dvs W ta tNil) := by
  obtain ⟨fd, ds, F, hb, hd⟩ := G.ok
  refine ⟨fun pins s σ H Q I h => PySem.W.methodCall_KW (pl := pl) (thn (he.run pins s σ H _ I h) ?_) ht⟩
  rintro u s1 ⟨x, H1, I1, rx, a, dx, fs, rfl, ea, l, q⟩
  obtain rfl : u = Value.ref a := rx
  refine getmeth_ok I1 ea c hm l ?_
  exact PySem.W.callWith_K0 (first := [.ref a]) I1.kIn hm.kp (run_fnSD (us := [.ref a]) (vs := [.ref a]) (E := WE W) F hr hb hd (passAt tk σ) I1 (.cons rfl .nil) q)
/-- a new instance: what an exception in __init__ asks is asked at the heap without the instance being known to the caller -/
def tMakeG (C : Addr) (sp : Sp) (dvs : List V) (W : WX) (t : TA) : TE := fun σ H Q => t σ H fun vs H1 => ∀ x dx, H1 x = none → H1 dx = none → dx ≠ x →
  sp (.ref x :: (vs ++ dvs)) (upd (upd H1 dx (.own x)) x (.ins C dx [])) (fun v H2 => v = .non ∧ Q (.ref x) H2) fun cls d H2 => W cls d σ H2
theorem run_makeG {pins : List (Addr × Obj)} {σ : St} {H : Hp} {s : Shared} {Q : VK} {us : List Value} {vs : List V} (M : Mk X.K (He.ga X.K C) (He.ma X.K (He.ga X.K C) "__init__")) (G : Gm X.prog X.w X.K X.mg X.base k (He.ma X.K (He.ga X.K C) "__init__") ps dvs sp)
    (hr : Room (k + 1) X.A) (tk : Takes X W) (I : Inv X pins σ H s) (r : Vals vs us)
    (h : ∀ x dx, H x = none → H dx = none → dx ≠ x → sp (.ref x :: (vs ++ dvs)) (upd (upd H dx (.own x)) x (.ins (He.ga X.K C) dx [])) (fun v H2 => v = .non ∧ Q (.ref x) H2) (WE W σ)) :
    wpAny (model X.prog X.w) X.A (call (.ref (He.ga X.K C)) us) (EP X pins σ Q) X.xe s := by
  obtain ⟨fd, ds, F, hb, hd⟩ := G.ok
  have hq := h (s.heap.objs.size + 1) s.heap.objs.size (I.hok.fresh (Nat.le_succ _)) (I.hok.fresh (Nat.le_refl _)) (Nat.ne_of_lt (Nat.lt_succ_self _))
  have I2 := Inv.made (C := He.ga X.K C) I
  have r2 : Vals (V.ref (s.heap.objs.size + 1) :: (vs ++ dvs)) (Value.ref (s.heap.objs.size + 1) :: (us ++ ds)) := .cons rfl (r.append hd)
  have hl : (Value.ref (s.heap.objs.size + 1) :: us ++ ds).length = ps.length := (r2.length.symm).trans (F.len _ _ _ _ hq)
  have run := F.run _ X.stack _ _ ⟨Value.ref (s.heap.objs.size + 1) :: us, []⟩ (Value.ref (s.heap.objs.size + 1) :: (us ++ ds)) _ _ (WE W σ) (hr.make (He.ga X.K C) us []) (I2.env0.make (He.ga X.K C) us []) (hb _ (Value.ref (s.heap.objs.size + 1) :: us) I2.kIn hl) r2 hq
  refine wpAny_call (make_map (f := He.ma X.K (He.ga X.K C) "__init__") I.kIn M.makes M.init (beq_iff_eq.mp M.fn) (codeAny_mono run ?_))
  rintro (e | fl) s' hq'
  · exact passAt tk σ pins _ _ e s' I2 hq'
  · cases fl with
    | ret u =>
      obtain ⟨v, H', I3, rv, ev, q3⟩ := I2.after hq'
      subst ev
      exact ⟨rv, ⟨V.ref (s.heap.objs.size + 1), H', I3, rfl, q3⟩⟩
    | next => exact False.elim hq'
    | brk => exact False.elim hq'
    | cont => exact False.elim hq'
theorem x_make (M : Mk X.K (He.ga X.K C) (He.ma X.K (He.ga X.K C) "__init__")) (G : Gm X.prog X.w X.K X.mg X.base k (He.ma X.K (He.ga X.K C) "__init__") ps dvs sp) (hr : Room (k + 1) X.A) (hg : Gl X C) (hm : X.mg C = some (.ref (He.ga X.K C))) (tk : Takes X W)
    (ha : PA X (e :: es) t) (hdb : (C == ("__debug__" : Str)) = false := by decide) (he : starEach (e :: es) X.env = (false, eval e X.env) :: starEach es X.env := by rfl) (hpl : (backTo pos (starEach es X.env)).any (·.1) = false := by rfl) :
    PE X (.Call (.Name C p) (e :: es) [] pos) (tMakeG (He.ga X.K C) sp dvs W t) := by
  refine ⟨fun pins s σ H Q I h => wpAny_Call_Name_kw (ld_glob I hg hm ?_ hdb)⟩
  refine PySem.W.callWith_K (h₀ := X.base) I.ok.mod.kin M.kp (thn (ha.run pos pins s σ H _ I h) ?_) he hpl
  rintro us s1 ⟨vs, H1, I1, r, q⟩
  exact ⟨I1.kIn, run_makeG M G hr tk I1 r q⟩
theorem x_make0 (M : Mk X.K (He.ga X.K C) (He.ma X.K (He.ga X.K C) "__init__")) (G : Gm X.prog X.w X.K X.mg X.base k (He.ma X.K (He.ga X.K C) "__init__") ps dvs sp) (hr : Room (k + 1) X.A) (hg : Gl X C) (hm : X.mg C = some (.ref (He.ga X.K C))) (tk : Takes X W)
    (hdb : (C == ("__debug__" : Str)) = false := by decide) : PE X (.Call (.Name C p) [] [] pos) (tMakeG (He.ga X.K C) sp dvs W tNil) := by
  refine ⟨fun pins s σ H Q I h => wpAny_Call_Name_kw (ld_glob I hg hm ?_ hdb)⟩
  exact PySem.W.callWith_K0 I.kIn M.kp (run_makeG (us := []) M G hr tk I .nil h)
/-! ### raise, try -/
def tRaiseC (W : WX) (C : Addr) : TS := fun _ σ H => W (.ref C) none σ H
theorem x_raise {x msg : Str} {j : Nat} {p p2 pos2 : Pos} {C : Addr} (hc : X.calm = true) (tk : Takes X W) (f : PySem.W.excIn X.K C He.veBase "ValueError.__new__" = true ∧ PySem.W.keepIn X.K (.ref C) = true ∧ PySem.W.subIn X.K (.ref C) (.type "BaseException") = some true ∧
    PySem.W.typeIn X.K (.ref C) = some (.type "type")) (gC : X.mg x = some (.ref C)) (hg : Gl X x) (hdb : (x == ("__debug__" : Str)) = false := by decide) : PS X (.Raise (some (.Call (.Name x p) [.Constant (.str msg) j p2] [] pos)) none pos2) (tRaiseC W C) :=
  ps_raise hc tk (pmk_own PySem.F.excBase_ValueError f.1 gC f.2.1 (raises_own f.2.2.1 f.2.2.2) hg hdb)
def tTryAs (K : Frag) (c : Value) (i : Nat) (ts : Addr → Value → Option Addr → TS) (Wout : WX) (tb : WX → TS) : TS := fun D σ H => tb (wAs K c i ts Wout D) D σ H
/-- isinstance(e, c), e what the suite holds -/
def rIsX (K : Frag) (a : Addr) (cls : Value) (d : Option Addr) : List V → Hp → VK → Prop := fun xs H Q => ∃ D, cls = .ref D ∧ d = none ∧ ExcC K D ∧ rIsE K D a xs H Q
theorem x_isE {a : Addr} {cls : Value} {d : Option Addr} {oe : Obj} {pn : List (Addr × Obj)} (hz : Zc cls d oe) (hf : ∃ vs, oe.data = .fields vs) : CallR (X.suite a ((a, oe) :: pn)) (.builtin "isinstance") (rIsX X.K a cls d) := by
  rintro pins s σ H xs us Q I r ⟨D, rfl, rfl, C, q⟩
  exact call_isE C hz hf pins s σ H xs us Q I r q
/-! ### properties -/
theorem x_prop {f : Str} {q g : Addr} (he : PE X e ta) (c : Cls X.K (He.ga X.K C)) (hp : PropOf X.K (He.ga X.K C) f q g) (G : Gm X.prog X.w X.K X.mg X.base k g ps [] sp) (hr : Room (k + 1) X.A)
    (hab : attributeBase e f X.env (eval e X.env) = eval e X.env := by rfl) : PE X (.Attribute e f pos) (tProp (He.ga X.K C) sp [] E0 ta) := by
  obtain ⟨fd, ds, F, hb, hd⟩ := G.ok
  exact pe_prop he c hp F hr hb hd (fun _ _ _ _ _ _ _ h => by
    obtain ⟨_, _, _, _, _, _, _, _, _, _, _, _, z⟩ := h
    exact z.elim) hab
/-! ### a word between two statements -/
def tCutG (t u : TS) : TS := fun D σ H => ∃ Mid : St → Hp → Prop, t { D with nx := Mid } σ H ∧ ∀ σ' H', Mid σ' H' → u D σ' H'
theorem x_cut {st : Stmt} {rest : List Stmt} {t u : TS} (h1 : PS X st t) (h2 : PSs X rest u) : PSs X (st :: rest) (tCutG t u) := by
  refine ⟨fun pins s σ H D I ⟨Mid, hm, hu⟩ => wpAny_execs_cons (thn (h1.run pins s σ H { D with nx := Mid } I hm) ?_)⟩
  rintro (_ | v | _ | _) s1 q
  · obtain ⟨σ', H', I', q⟩ := q
    exact h2.run pins s1 σ' H' D I' (hu σ' H' q)
  all_goals exact q
end rules
/-! Own work: sorted({e for x in xs if t}), e whole numbers, fewer than 64 of them: one rule; the set itself stands in the heap as a thing of which the reading knows nothing. -/
open PySem PySem.Spec L2
/-- how many different ones -/
def many : List Int → Nat
  | [] => 0
  | c :: l => if c ∈ l then many l else many l + 1
/-- the set of the members of l, at D -/
def mem_ (w : World) (D : Addr) (l : List Int) : HO := SetO w D (fun j => decide (j ∈ l)) (many l)
theorem mem_nil (w : World) (D : Addr) : mem_ w D [] = SetO w D (fun _ => false) 0 := by
  unfold mem_
  have e : (fun j : Int => decide (j ∈ ([] : List Int))) = fun _ => false := funext fun j => by simp
  rw [e]
  rfl
theorem mem_cons_ (w : World) (D : Addr) (c : Int) (l : List Int) : SetO w D (fun j => decide (j ∈ l) || decide (j = c)) (if decide (c ∈ l) = true then many l else many l + 1) = mem_ w D (c :: l) := by
  unfold mem_
  have e : (fun j : Int => decide (j ∈ l) || decide (j = c)) = fun j => decide (j ∈ c :: l) := funext fun j => by
    by_cases h1 : j ∈ l <;> by_cases h2 : j = c <;> simp [h1, h2]
  rw [e]
  have n : many (c :: l) = if c ∈ l then many l else many l + 1 := rfl
  rw [n]
  by_cases h : c ∈ l <;> simp [h]
def tSoSc (wi : TI) (g : TG) (tt : TT) (te : TE) (vs : List Nat) : TE := fun σ H Q => wi σ H fun J H1 => ∀ (D : Addr) (so : List Int → HO), H1 D = none → ∃ W : Nat → Nat → List Int → Hp → Prop, (∃ m, W 0 m [] (upd H1 D (so []))) ∧ ∀ i m l H, W i m l H →
  (J.stop i H ∧ H D = some (so l) ∧ many l < 64 ∧ ∀ (out : List Int) (p : Addr), out.Pairwise (· < ·) → (∀ k : Int, k ∈ out ↔ k ∈ l) → H p = none → Q (.ref p) (upd H p (.lst (out.map V.int)))) ∨
  (J.go i H ∧ ∃ Nx : List Int → Hp → Prop, (∀ l' H', Nx l' H' → ∃ m', m' < m ∧ W (i + 1) m' l' H') ∧ ∀ x H', J.yld i H x H' → g x (wipe σ vs) H' fun σ2 H2 => wipe σ2 vs = wipe σ vs ∧ tt σ2 H2 fun b H3 =>
    if b = true then te σ2 H3 fun y H4 => ∃ c : Int, y = .int c ∧ H4 D = some (so l) ∧ many l < 1000 ∧ Nx (c :: l) (upd H4 D (so (c :: l))) else Nx l H3)
section
variable {X : Cx}
/-- the block's own context, the set made, the loop entered -/
structure Blk (X : Cx) (s3 : Shared) (H3 : Hp) (sc : Scope) (ce : Env) (fp : List Addr) (s : Shared) (σ : St) (own : List (Str × Nat)) (tn : Nat → Heap → Prop) : Prop where
  inv : Inv (X.blk s3 H3 sc ce fp) [] (wipe σ (own.map (·.2))) H3 s
  at_ : tn 0 s.heap
  free : ∀ b ∈ fp, H3 b = none
theorem stat_of {s3 : Shared} {H3 : Hp} {sc : Scope} {ce : Env} {fp : List Addr} {σ' : St} {H' : Hp} {s' : Shared} (I : Inv (X.blk s3 H3 sc ce fp) [] σ' H' s') (hn : ∀ b ∈ fp, H' b = none) : ∀ b ∈ fp, FpOk (X.blk s3 H3 sc ce fp) [] H' b := fun b hb =>
  ⟨hn b hb, (I.ok.exf b hb).1, I.ok.exfs b hb, .inl hb, fun x c e => (I.ok.exf b hb).2 x c e, fun p hp => absurd (show p ∈ ([] : List (Addr × Obj)) ++ [] from hp) (by simp)⟩
theorem sosc_core {pins : List (Addr × Obj)} {s : Shared} {σ : St} {H : Hp} {Q : VK} {elt tg iter : Expr} {ifs : List Expr} {scope : Scope} {own : List (Str × Nat)} {pos pos' : Pos} {wi : TI} {g : TG} {tt : TT} {te : TE} {Qf : Value → Shared → Prop}
    (hc : X.calm = true) (hN : X.N.Nodup) (I : Inv X pins σ H s) (hi : PI X tg iter wi) (ok : BlkOk X.N X.env.scope scope own)
    (hg : ∀ (s : Shared) (H : Hp) (C : Addr) (cl : List (Str × Addr)) (fp : List Addr), PG (X.blk s H scope (compEnvC scope cl C X.env) fp) tg g) (ht : ∀ (s : Shared) (H : Hp) (C : Addr) (cl : List (Str × Addr)) (fp : List Addr), PTs (X.blk s H scope (compEnvC scope cl C X.env) fp) ifs tt)
    (he : ∀ (s : Shared) (H : Hp) (C : Addr) (cl : List (Str × Addr)) (fp : List Addr), PE (X.blk s H scope (compEnvC scope cl C X.env) fp) elt te) (hs : ∀ x, foldedSetIterable iter X.env x = pure x)
    (h : tSoSc wi g tt te (own.map (·.2)) σ H Q)
    (hQ : ∀ (D : Addr) (l : List Int) (s' : Shared) (H' : Hp), Inv X pins σ H' s' → H' D = some (mem_ X.w D l) → many l < 64 →
      (∀ (out : List Int) (p : Addr), out.Pairwise (· < ·) → (∀ k : Int, k ∈ out ↔ k ∈ l) → H' p = none → Q (.ref p) (upd H' p (.lst (out.map V.int)))) → Qf (.ref D) s') :
    wpAny (model X.prog X.w) X.A (comprehension (.SetComp elt [⟨tg, iter, ifs, 0⟩] scope pos) scope X.env pos' (newSet (.type "set")) false (eval iter X.env) none) Qf X.xe s := by
  have cap : ∀ y ∈ scope.names, y.2 = .free → ∃ c, X.env.cells.lookup y.1 = some c := fun y hy e => (ok.free y hy e).elim (fun k => I.ok.has _ (.inl k)) fun k => I.ok.has _ (.inr k)
  refine wpAny_comprehension_free (use := none) rfl hs (closure_ok cap) ok.kind (fun y hy e => by rw [ok.uniq y hy, e]) (thn (hi.run pins s σ H _ I h) fun xv s1 hx => thn hx ?_)
  rintro itv s2 ⟨it, fp, tn, J, H2, rfl, I2, T, st2, f2, q⟩
  refine PpSet.newSet_ok (newEnv_comp ?_)
  have new : H2 s2.heap.objs.size = none := I2.hok.fresh (Nat.le_refl _)
  obtain ⟨W, ⟨m0, w0⟩, turn⟩ := q s2.heap.objs.size (mem_ X.w s2.heap.objs.size) new
  have lt2 : ∀ b ∈ fp, b < s2.heap.objs.size := fun b hb => by
    obtain ⟨o, e, _⟩ := T.obj _ _ st2 b hb
    exact Heap.lt_size e
  generalize eo : ({ cls := .type "set", dict := none, data := .set #[] 0 (.fresh 0 0 (!X.w.params.followText "set-order")) } : Obj) = ob at ⊢
  have R0 : ObjOk X.prog X.w (upd H2 s2.heap.objs.size (mem_ X.w s2.heap.objs.size [])) (s2.heap.push ob) s2.heap.objs.size (mem_ X.w s2.heap.objs.size []) := by
    rw [mem_nil, ← eo]
    exact setO_new (setR_fresh X.w)
  have I3 : Inv X pins σ (upd H2 s2.heap.objs.size (mem_ X.w s2.heap.objs.size [])) { s2 with heap := s2.heap.push ob } := I2.laid (t' := s2.toks) (fun b o e => Heap.get?_push_of_some _ e) (Nat.le_refl _) R0
  generalize eH : upd H2 s2.heap.objs.size (mem_ X.w s2.heap.objs.size []) = H3 at I3 w0
  generalize es : ({ s2 with heap := s2.heap.push ob } : Shared) = s3 at I3 ⊢
  have sz3 : s3.heap.objs.size = s2.heap.objs.size + 1 := by rw [← es]; exact Heap.size_push ..
  have ps3 : ∀ b o, s2.heap.get? b = some o → s3.heap.get? b = some o := fun b o e => by rw [← es]; exact Heap.get?_push_of_some _ e
  have f3 : ∀ b ∈ fp, FpOk X pins H3 b ∧ b < s3.heap.objs.size := fun b hb => by
    refine ⟨⟨?_, (f2 b hb).2⟩, by rw [sz3]; exact Nat.lt_succ_of_lt (lt2 b hb)⟩
    rw [← eH, upd_ne (Nat.ne_of_lt (lt2 b hb))]
    exact (f2 b hb).1
  have I4 := block_start I3 ok hN f3
  have st4 : tn 0 (pushCells (s3.heap.push { cls := .type "dict", data := .dict #[] }) scope.names) :=
    T.keep _ _ _ st2 fun b _ o e => pushCells_keeps _ _ _ _ (Heap.get?_push_of_some _ (ps3 b o e))
  have pg := hg s3 H3 s3.heap.objs.size (cellsFrom (s3.heap.objs.size + 1) scope.names (cloFrom X.env.cells scope.names [])) fp
  have pt := ht s3 H3 s3.heap.objs.size (cellsFrom (s3.heap.objs.size + 1) scope.names (cloFrom X.env.cells scope.names [])) fp
  have pe := he s3 H3 s3.heap.objs.size (cellsFrom (s3.heap.objs.size + 1) scope.names (cloFrom X.env.cells scope.names [])) fp
  have goal : codeAny (model X.prog X.w) X.A (.compStart (.SetComp elt [⟨tg, iter, ifs, 0⟩] scope pos) 0 (.ref it) (.ref s2.heap.objs.size) (compEnvC scope (cellsFrom (s3.heap.objs.size + 1) scope.names (cloFrom X.env.cells scope.names [])) s3.heap.objs.size X.env))
      (compPost (model X.prog X.w) X.A X.xe none Qf (.ref s2.heap.objs.size) s3.heap.objs.size) { s3 with heap := pushCells (s3.heap.push { cls := .type "dict", data := .dict #[] }) scope.names } := by
    generalize ece : compEnvC scope (cellsFrom (s3.heap.objs.size + 1) scope.names (cloFrom X.env.cells scope.names [])) s3.heap.objs.size X.env = ce at I4 pg pt pe ⊢
    have cL : ce.locals = s3.heap.objs.size := by rw [← ece]; rfl
    generalize eD : s2.heap.objs.size = D at *
    generalize e4 : ({ s3 with heap := pushCells (s3.heap.push { cls := .type "dict", data := .dict #[] }) scope.names } : Shared) = s4 at I4 ⊢
    have st4' : tn 0 s4.heap := by rw [← e4]; exact st4
    have loop : codeAny (model X.prog X.w) X.A (.compLoop (.SetComp elt [⟨tg, iter, ifs, 0⟩] scope pos) 0 (.ref it) (.ref D) ce) (compPost (model X.prog X.w) X.A X.xe none Qf (.ref D) s3.heap.objs.size) s4 := by
      refine PpSet.compLoopS_any (fun n s' => ∃ i l H', Inv (X.blk s3 H3 scope ce fp) [] (wipe σ (own.map (·.2))) H' s' ∧ tn i s'.heap ∧ (∀ b ∈ fp, H' b = none) ∧ W i n l H') ?_ m0 ⟨0, [], H3, I4, st4', fun b hb => (f3 b hb).1.1, w0⟩
      rintro n s5 ⟨i, l, H5, I5, st5, n5, w5⟩
      rcases turn i n l H5 w5 with ⟨stop, hD5, h64, qq⟩ | ⟨go, Nx, hNx, step⟩
      · refine thnF (T.done (X.blk s3 H3 scope ce fp) rfl rfl rfl hc i [] s5 _ H5 (fun _ _ => False) I5 (stat_of I5 n5) st5 stop) ?_
        rintro r s6 ⟨rfl, I6⟩
        have back : Inv X pins σ H5 s6 := I3.call' (ch := fp) I6.os I6.base I6.hok I6.bare fun b hb => ⟨(f3 b hb).1.2.2.2.1, (f3 b hb).1.2.1, (f3 b hb).1.2.2.2.2.1, (f3 b hb).1.2.2.2.2.2⟩
        have freeC : H5 s3.heap.objs.size = none := by
          rw [← cL]
          exact I6.free
        obtain ⟨m, hn, _⟩ := I6.loc
        obtain ⟨g0, g1, g2, g3, g4, g5⟩ := I3.fpOk (Nat.le_refl _) freeC
        refine ⟨m, by rw [← cL]; exact hn, fun h'' sb => ?_⟩
        exact hQ D l _ H5 (back.turned (t' := s6.toks) (fun b o hb e => (sb.2 b hb).trans e) g0 g1 g3 g4 g5) hD5 h64 qq
      · refine thnF (T.item (X.blk s3 H3 scope ce fp) rfl rfl rfl hc i [] s5 _ H5 (fun _ _ => False) I5 (stat_of I5 n5) st5 go) ?_
        rintro r s6 ⟨u, rfl, h6⟩
        refine thnF h6 ?_
        rintro _ s7 ⟨x, H7, I7, r7, y7, st7, n7⟩
        refine thnF (pg.run _ s7 _ H7 x u _ (I7.pinned (stat_of I7 n7) (T.obj _ _ st7)) r7 (step x H7 y7)) ?_
        rintro _ s8 ⟨σ8, H8, I8, hw8, q8⟩
        refine thnF (pt.run _ s8 σ8 H8 _ I8 q8) ?_
        rintro b s9 ⟨H9, I9, q9⟩
        have fin : ∀ {s' : Shared} {H' : Hp} {l' : List Int}, Inv (X.blk s3 H3 scope ce fp) ([] ++ pinsAt fp s7.heap) σ8 H' s' → Nx l' H' → ∃ m, m < n ∧ ∃ i l H', Inv (X.blk s3 H3 scope ce fp) [] (wipe σ (own.map (·.2))) H' s' ∧ tn i s'.heap ∧ (∀ b ∈ fp, H' b = none) ∧ W i m l H' := by
          intro s' H' l' I' nx
          obtain ⟨m', hm, w'⟩ := hNx l' H' nx
          have pin' : ∀ b ∈ fp, ∀ o, s7.heap.get? b = some o → s'.heap.get? b = some o ∧ H' b = none := fun b hb o e =>
            ⟨(I'.pin (b, o) (List.mem_append_right _ (List.mem_append_right _ (mem_pinsAt hb e)))).1, (I'.pin (b, o) (List.mem_append_right _ (List.mem_append_right _ (mem_pinsAt hb e)))).2.1⟩
          refine ⟨m', hm, i + 1, l', H', (I'.unpinned (pins := [])).weak (by rw [← hw8, wipe_length]) (fun j v e => ?_), T.keep _ _ _ st7 fun b hb o e => (pin' b hb o e).1, fun b hb => ?_, w'⟩
          · rw [← hw8] at e
            exact (wipe_some e).1
          · obtain ⟨o, e, _⟩ := T.obj _ _ st7 b hb
            exact (pin' b hb o e).2
        cases b with
        | false => exact fin I9 q9
        | true =>
          refine thnF (pe.run _ s9 σ8 H9 _ I9 q9) ?_
          rintro z s10 ⟨yv, H10, I10, r10, c, rfl, hD10, hz, nx⟩
          refine thnF (mt_sadd (X := X.blk s3 H3 scope ce fp) _ s10 σ8 H10 (.ref D) [.int c] (.ref D) [z] (fun _ H' => H' = upd H10 D (mem_ X.w D (c :: l))) I10 rfl (.cons r10 .nil)
            ⟨D, c, fun j => decide (j ∈ l), many l, rfl, rfl, hD10, Nat.lt_of_le_of_lt (Nat.succ_le_of_lt hz) (by decide), by rw [mem_cons_]⟩) ?_
          rintro _ s11 ⟨_, H11, I11, _, rfl⟩
          exact fin I11 nx
    exact PpSet.codeAny_compStart_set loop (T.self X.A 0 _ _ _ st4' loop)
  exact goal
theorem x_soSc {elt tg iter : Expr} {ifs : List Expr} {scope : Scope} {own : List (Str × Nat)} {pos spos p : Pos} {wi : TI} {g : TG} {tt : TT} {te : TE} (hc : X.calm = true) (hN : X.N.Nodup) (hgl : Gl X "sorted") (hm : X.mg "sorted" = none) (hi : PI X tg iter wi) (ok : BlkOk X.N X.env.scope scope own)
    (hg : ∀ (s : Shared) (H : Hp) (C : Addr) (cl : List (Str × Addr)) (fp : List Addr), PG (X.blk s H scope (compEnvC scope cl C X.env) fp) tg g) (ht : ∀ (s : Shared) (H : Hp) (C : Addr) (cl : List (Str × Addr)) (fp : List Addr), PTs (X.blk s H scope (compEnvC scope cl C X.env) fp) ifs tt)
    (he : ∀ (s : Shared) (H : Hp) (C : Addr) (cl : List (Str × Addr)) (fp : List Addr), PE (X.blk s H scope (compEnvC scope cl C X.env) fp) elt te) (hs : ∀ x, foldedSetIterable iter X.env x = pure x := by intro _; rfl)
    (hst : starEach [.SetComp elt [⟨tg, iter, ifs, 0⟩] scope spos] X.env = (false, eval (.SetComp elt [⟨tg, iter, ifs, 0⟩] scope spos) X.env) :: starEach [] X.env := by rfl) :
    PE X (.Call (.Name "sorted" p) [.SetComp elt [⟨tg, iter, ifs, 0⟩] scope spos] [] pos) (tSoSc wi g tt te (own.map (·.2))) := by
  have arg : PE X (.SetComp elt [⟨tg, iter, ifs, 0⟩] scope spos) (fun σ H Q => ∃ Qs : VK, tSoSc wi g tt te (own.map (·.2)) σ H Qs ∧ ∀ (D : Addr) (l : List Int) (H' : Hp), H' D = some (mem_ X.w D l) → many l < 64 →
      (∀ (out : List Int) (p : Addr), out.Pairwise (· < ·) → (∀ k : Int, k ∈ out ↔ k ∈ l) → H' p = none → Qs (.ref p) (upd H' p (.lst (out.map V.int)))) → Q (.ref D) H') := by
    refine ⟨fun pins s σ H Q I ⟨Qs, h, hq⟩ => ?_⟩
    rw [PpSet.eval_SetComp]
    exact sosc_core hc hN I hi ok hg ht he hs h fun D l s' H' I' hD h64 k => ⟨.ref D, H', I', rfl, hq D l H' hD h64 k⟩
  have all := pe_callB (x := "sorted") (p := p) (pos := pos) (cr_sortedSet hc) hgl hm (by decide +kernel) (pa_cons arg pa_nil hst)
  refine ⟨fun pins s σ H Q I h => all.run pins s σ H Q I ⟨Q, h, fun D l H' hD h64 k => ?_⟩⟩
  exact ⟨D, _, many l, rfl, hD, h64, fun ns p h1 h2 _ h4 => k ns p h1 (fun z => (h2 z).trans decide_eq_true_iff) h4⟩
end
/-! Own work: readings, one step a lemma (g_..), and the word `walk_at "go"` that takes them by the head of the goal. -/
open PySem PySem.Spec L2
section
variable {K : Frag} {σ : St} {H H' : Hp} {Q : VK} {D : Ends} {ta tb tc te tv : TE} {t u : TT} {ts us : TS} {g : TG} {tl : TA} {x y z v : V} {i j : Int} {p q a b C : Addr} {xs ys vs : List V} {r : R2}
/-! #### values -/
theorem g_var {k : Nat} (h : σ[k]? = some (some v)) (q : Q v H) : tVar k σ H Q := ⟨v, h, q⟩
theorem g_c (q : Q v H) : tC v σ H Q := q
theorem g_op (q : ta σ H fun x H1 => tb σ H1 fun y H2 => r x y H2 Q) : tOp r ta tb σ H Q := q
theorem g_un {r : V → Hp → VK → Prop} (q : ta σ H fun x H1 => r x H1 Q) : tUn r ta σ H Q := q
theorem g_I0 {g : Int → Int → V} (q : Q (g i j) H) : rI0 g (.int i) (.int j) H Q := ⟨i, j, rfl, rfl, q⟩
theorem g_I {c : Int → Int → Prop} {g : Int → Int → V} (h : c i j) (q : Q (g i j) H) : rI c g (.int i) (.int j) H Q := ⟨i, j, rfl, rfl, h, q⟩
theorem g_U {g : Int → V} (q : Q (g i) H) : rU g (.int i) H Q := ⟨i, rfl, q⟩
/-- products and quotients by a small number; powers of small numbers -/
theorem g_mulR {g : Int → Int → V} (h : -(2 ^ 64) < j ∧ j < 2 ^ 64) (q : Q (g i j) H) : rI CMul g (.int i) (.int j) H Q := g_I (.inr h) q
theorem g_mulL {g : Int → Int → V} (h : -(2 ^ 64) < i ∧ i < 2 ^ 64) (q : Q (g i j) H) : rI CMul g (.int i) (.int j) H Q := g_I (.inl h) q
theorem g_fld {f : Str} (q : ta σ H fun x H1 => ∃ a dx fs v, x = .ref a ∧ H1 a = some (.ins C dx fs) ∧ fs.lookup f = some v ∧ Q v H1) : tFldC C ta f σ H Q := q
theorem g_fldv {dx : Addr} {fs : List (Str × V)} {f : Str} {R : V → Prop} (h : H a = some (.ins C dx fs)) (l : fs.lookup f = some v) (q : R v) : ∃ a' dx fs v, V.ref a = .ref a' ∧ H a' = some (.ins C dx fs) ∧ fs.lookup f = some v ∧ R v := ⟨a, dx, fs, v, rfl, h, l, q⟩
theorem g_tup (q : tl σ H fun xs H1 => xs.length ≤ sizeLine ∧ ∀ p, H1 p = none → Q (.ref p) (upd H1 p (.tup xs))) : tTup tl σ H Q := q
theorem g_lst (q : tl σ H fun xs H1 => xs.length ≤ sizeLine ∧ ∀ p, H1 p = none → Q (.ref p) (upd H1 p (.lst xs))) : tLst tl σ H Q := q
theorem g_newN {n : Nat} {R : Addr → Prop} (h : n ≤ 1000) (q : ∀ p, H p = none → R p) : n ≤ sizeLine ∧ ∀ p, H p = none → R p := ⟨Nat.le_trans h (by decide), q⟩
theorem g_nil {Q : List V → Hp → Prop} (q : Q [] H) : tNil σ H Q := q
theorem g_cons {Q : List V → Hp → Prop} (q : ta σ H fun x H1 => tl σ H1 fun xs H2 => Q (x :: xs) H2) : tCons ta tl σ H Q := q
theorem g_cb {r : List V → Hp → VK → Prop} (q : tl σ H fun vs H1 => r vs H1 Q) : tCB r tl σ H Q := q
theorem g_call {sp : Sp} {dvs : List V} {W : WX} (q : tl σ H fun vs H1 => sp (vs ++ dvs) H1 Q fun cls d H2 => W cls d σ H2) : tCallG sp dvs W tl σ H Q := q
theorem g_meth {m : Str} {sp : Sp} {dvs : List V} {W : WX} (q : ta σ H fun x H1 => ∃ a dx fs, x = .ref a ∧ H1 a = some (.ins C dx fs) ∧ fs.lookup m = none ∧ tl σ H1 fun vs H2 => sp (x :: (vs ++ dvs)) H2 Q fun cls d H3 => W cls d σ H3) : tMethG C m sp dvs W ta tl σ H Q := q
theorem g_methv {dx : Addr} {fs : List (Str × V)} {m : Str} {R : Prop} (h : H a = some (.ins C dx fs)) (l : fs.lookup m = none) (q : R) : ∃ a' dx fs, V.ref a = .ref a' ∧ H a' = some (.ins C dx fs) ∧ fs.lookup m = none ∧ R := ⟨a, dx, fs, rfl, h, l, q⟩
theorem g_make {sp : Sp} {dvs : List V} {W : WX} (q : tl σ H fun vs H1 => ∀ x dx, H1 x = none → H1 dx = none → dx ≠ x → sp (.ref x :: (vs ++ dvs)) (upd (upd H1 dx (.own x)) x (.ins C dx [])) (fun v H2 => v = .non ∧ Q (.ref x) H2) fun cls d H2 => W cls d σ H2) : tMakeG C sp dvs W tl σ H Q := q
/-! #### items -/
theorem g_ixL {n : Nat} (h : SqL K H p xs) (e : xs[n]? = some v) (hi : i = (n : Int)) (q : Q v H) : rIxL K (.ref p) (.int i) H Q := ⟨p, xs, i, v, rfl, rfl, h, by rw [hi]; exact atI_nat e, q⟩
theorem g_ixT {n : Nat} (h : SqT K H p xs) (e : xs[n]? = some v) (hi : i = (n : Int)) (q : Q v H) : rIxT K (.ref p) (.int i) H Q := ⟨p, xs, i, v, rfl, rfl, h, by rw [hi]; exact atI_nat e, q⟩
theorem g_setL {n : Nat} {Q : Hp → Prop} (h : H p = some (.lst xs)) (hn : n < xs.length) (hi : i = (n : Int)) (q : Q (upd H p (.lst (xs.set n v)))) : rSetL (.ref p) (.int i) v H Q :=
  ⟨p, xs, i, n, rfl, rfl, h, by rw [hi]; unfold ixN; rw [if_pos (by omega), if_pos (by omega), Int.toNat_natCast], q⟩
/-! #### comparisons -/
theorem dec_intI : decide (V.int i = V.int j) = decide (i = j) := by
  by_cases e : i = j
  · subst e; simp
  · have h : ¬ V.int i = V.int j := fun z => e (V.int.inj z)
    rw [decide_eq_false h, decide_eq_false e]
theorem dec_strS {a b : Str} : decide (V.str a = V.str b) = decide (a = b) := by
  by_cases e : a = b
  · subst e; simp
  · have h : ¬ V.str a = V.str b := fun z => e (V.str.inj z)
    rw [decide_eq_false h, decide_eq_false e]
theorem dec_blB {a b : Bool} : decide (V.bl a = V.bl b) = decide (a = b) := by cases a <;> cases b <;> rfl
theorem g_eqI (q : Q (.bl (decide (i = j))) H) : rEq (.int i) (.int j) H Q := ⟨rfl, by rw [dec_intI]; exact q⟩
theorem g_neI (q : Q (.bl (!decide (i = j))) H) : rNe (.int i) (.int j) H Q := ⟨rfl, by rw [dec_intI]; exact q⟩
theorem g_eqS {a b : Str} (q : Q (.bl (decide (a = b))) H) : rEq (.str a) (.str b) H Q := ⟨rfl, by rw [dec_strS]; exact q⟩
theorem g_neS {a b : Str} (q : Q (.bl (!decide (a = b))) H) : rNe (.str a) (.str b) H Q := ⟨rfl, by rw [dec_strS]; exact q⟩
theorem g_eqB {a b : Bool} (q : Q (.bl (decide (a = b))) H) : rEq (.bl a) (.bl b) H Q := ⟨rfl, by rw [dec_blB]; exact q⟩
theorem g_neB {a b : Bool} (q : Q (.bl (!decide (a = b))) H) : rNe (.bl a) (.bl b) H Q := ⟨rfl, by rw [dec_blB]; exact q⟩
theorem g_isN0 (q : Q (.bl true) H) : rIsN .non .non H Q := ⟨rfl, q⟩
theorem g_isNi (q : Q (.bl false) H) : rIsN (.int i) .non H Q := ⟨rfl, q⟩
theorem g_isNr (q : Q (.bl false) H) : rIsN (.ref p) .non H Q := ⟨rfl, q⟩
theorem g_notN0 (q : Q (.bl false) H) : rNotN .non .non H Q := ⟨rfl, q⟩
theorem g_notNi (q : Q (.bl true) H) : rNotN (.int i) .non H Q := ⟨rfl, q⟩
theorem g_notNr (q : Q (.bl true) H) : rNotN (.ref p) .non H Q := ⟨rfl, q⟩
/-! #### tests -/
theorem g_test {Q : Bool → Hp → Prop} (q : te σ H fun x H' => ∃ k, x = .bl k ∧ Q k H') : tTest te σ H Q := q
theorem g_B {Q : Bool → Hp → Prop} (q : te σ H fun x H' => ∃ k, x = .bl k ∧ Q k H') : tB te σ H Q := q
theorem g_bl {c : Bool} {R : Bool → Prop} (q : R c) : ∃ k, V.bl c = .bl k ∧ R k := ⟨c, rfl, q⟩
theorem g_and {Q : Bool → Hp → Prop} (q : t σ H fun c H1 => if c = true then u σ H1 Q else Q false H1) : tAnd t u σ H Q := q
theorem g_or {Q : Bool → Hp → Prop} (q : t σ H fun c H1 => if c = true then Q true H1 else u σ H1 Q) : tOr t u σ H Q := q
theorem g_not {Q : Bool → Hp → Prop} (q : t σ H fun c H1 => Q (!c) H1) : tNot t σ H Q := q
theorem g_andV (q : ta σ H fun x H1 => ∃ c, x = .bl c ∧ if c = true then tb σ H1 Q else Q (.bl false) H1) : tAndV ta tb σ H Q := q
theorem g_orV (q : ta σ H fun x H1 => ∃ c, x = .bl c ∧ if c = true then Q (.bl true) H1 else tb σ H1 Q) : tOrV ta tb σ H Q := q
theorem g_notV (q : ta σ H fun x H1 => ∃ c, x = .bl c ∧ Q (.bl (!c)) H1) : tNotV ta σ H Q := q
theorem g_if {tt : TT} (q : tt σ H fun c H1 => if c = true then ta σ H1 Q else tb σ H1 Q) : tIf tt ta tb σ H Q := q
theorem g_itT {A B : Prop} (q : A) : if true = true then A else B := by rw [if_pos rfl]; exact q
theorem g_itF {A B : Prop} (q : B) : if false = true then A else B := by rw [if_neg Bool.false_ne_true]; exact q
theorem g_it {c : Prop} [Decidable c] {A B : Prop} (h1 : c → A) (h2 : ¬ c → B) : if decide c = true then A else B := by
  by_cases h : c
  · rw [if_pos (decide_eq_true h)]; exact h1 h
  · rw [if_neg (by rw [decide_eq_true_eq]; exact h)]; exact h2 h
theorem g_itn {c : Prop} [Decidable c] {A B : Prop} (h1 : ¬ c → A) (h2 : c → B) : if (!decide c) = true then A else B := by
  by_cases h : c
  · rw [decide_eq_true h]; exact g_itF (h2 h)
  · rw [decide_eq_false h]; exact g_itT (h1 h)
theorem g_itb {c : Bool} {A B : Prop} (h1 : c = true → A) (h2 : c = false → B) : if c = true then A else B := by
  cases c with
  | true => exact g_itT (h1 rfl)
  | false => exact g_itF (h2 rfl)
/-- the outcome is known -/
theorem g_yes {c : Bool} {A B : Prop} (h : c = true) (q : A) : if c = true then A else B := by rw [if_pos h]; exact q
theorem g_no {c : Bool} {A B : Prop} (h : c = false) (q : B) : if c = true then A else B := by rw [h]; exact g_itF q
/-! #### statements -/
theorem g_seq {n b c : St → Hp → Prop} {r : VK} (q : ts ⟨us ⟨n, r, b, c⟩, r, b, c⟩ σ H) : tSeq ts us ⟨n, r, b, c⟩ σ H := q
theorem g_cut {n b c : St → Hp → Prop} {r : VK} (Mid : St → Hp → Prop) (h : ts ⟨Mid, r, b, c⟩ σ H) (k : ∀ σ' H', Mid σ' H' → us ⟨n, r, b, c⟩ σ' H') : tCutG ts us ⟨n, r, b, c⟩ σ H := ⟨Mid, h, k⟩
theorem g_nx (q : D.nx σ H) : tNext D σ H := q
theorem g_brk (q : D.bk σ H) : tBreak D σ H := q
theorem g_ct (q : D.ct σ H) : tCont D σ H := q
theorem g_drop (q : te σ H fun _ H1 => D.nx σ H1) : tDrop te D σ H := q
theorem g_ret (q : te σ H D.rt) : tRet te D σ H := q
theorem g_retN (q : D.rt .non H) : tRetN D σ H := q
theorem g_ifS {tt : TT} (q : tt σ H fun b H1 => if b = true then ts D σ H1 else us D σ H1) : tIfS tt ts us D σ H := q
theorem g_asg (q : te σ H fun x H1 => g x σ H1 D.nx) : tAsg te g D σ H := q
theorem g_name {k : Nat} {Q : St → Hp → Prop} (q : Q (σ.set k (some v)) H) : gName k v σ H Q := q
theorem g_aug {k : Nat} {f : Int → Int → Int} (h : σ[k]? = some (some (.int i))) (q : te σ H fun y H1 => ipI f (.int i) y H1 fun z H2 => D.nx (σ.set k (some z)) H2) : tAug k te (ipI f) D σ H := ⟨_, h, q⟩
theorem g_ipI {f : Int → Int → Int} (q : Q (.int (f i j)) H) : ipI f (.int i) (.int j) H Q := ⟨i, j, rfl, rfl, q⟩
theorem g_sub {to ti : TE} {s : TSet} {Q : St → Hp → Prop} (q : to σ H fun o H1 => ti σ H1 fun i H2 => s o i v H2 fun H3 => Q σ H3) : gSub to ti s v σ H Q := q
theorem g_sfld {f : Str} (q : tv σ H fun y H1 => ta σ H1 fun x H2 => ∃ a dx fs, x = .ref a ∧ H2 a = some (.ins C dx fs) ∧ fs.length < 1000 ∧ D.nx σ (upd H2 a (.ins C dx (putF f y fs)))) : sFldC C ta tv f D σ H := q
theorem g_sfldv {dx : Addr} {fs fs' : List (Str × V)} {f : Str} {R : Hp → Prop} (h : H a = some (.ins C dx fs)) (l : fs.length < 1000) (e : putF f y fs = fs') (q : R (upd H a (.ins C dx fs'))) :
    ∃ a' dx fs, V.ref a = .ref a' ∧ H a' = some (.ins C dx fs) ∧ fs.length < 1000 ∧ R (upd H a' (.ins C dx (putF f y fs))) := ⟨a, dx, fs, rfl, h, l, by rw [e]; exact q⟩
theorem g_raise {W : WX} (q : W (.ref C) none σ H) : tRaiseC W C D σ H := q
/-! #### built-ins -/
theorem g_lenL (h : SqL K H p xs) (q : Q (.int (xs.length : Nat)) H) : rLenQ K [.ref p] H Q := ⟨p, xs, rfl, .inl h, q⟩
theorem g_lenT (h : SqT K H p xs) (q : Q (.int (xs.length : Nat)) H) : rLenQ K [.ref p] H Q := ⟨p, xs, rfl, .inr h, q⟩
theorem g_lenS {z : Str} (h : z.length ≤ 1000000) (q : Q (.int (z.length : Nat)) H) : rLenS [.str z] H Q := ⟨z, rfl, Nat.le_trans h (by decide), q⟩
theorem g_intI (q : Q (.int i) H) : rInt [.int i] H Q := .inl ⟨i, rfl, q⟩
theorem g_intB {k : Bool} (q : Q (.int (if k then 1 else 0)) H) : rInt [.bl k] H Q := .inr ⟨k, rfl, q⟩
theorem g_max (q : Q (.int (if j > i then j else i)) H) : rMax2 [.int i, .int j] H Q := ⟨i, j, rfl, q⟩
theorem g_min (q : Q (.int (if j < i then j else i)) H) : rMin2 [.int i, .int j] H Q := ⟨i, j, rfl, q⟩
theorem g_bm {r : V → List V → Hp → VK → Prop} (q : ta σ H fun x H1 => tyV K "list" x H1 ∧ tl σ H1 fun xs H2 => r x xs H2 Q) : tBM K "list" r ta tl σ H Q := q
theorem g_bm0 {r : V → List V → Hp → VK → Prop} (q : ta σ H fun x H1 => tyV K "list" x H1 ∧ r x [] H1 Q) : tBM0 K "list" r ta σ H Q := q
theorem g_tyL {R : Prop} (h : H p = some (.lst xs)) (q : R) : tyV K "list" (.ref p) H ∧ R := ⟨.inl ⟨rfl, _, SqL.of h⟩, q⟩
theorem g_app (h : H p = some (.lst xs)) (l : xs.length < 1000000) (q : Q .non (upd H p (.lst (xs ++ [v])))) : rAppend (.ref p) [v] H Q := ⟨p, xs, v, rfl, rfl, h, Nat.lt_of_lt_of_le l (by decide), q⟩
theorem g_cat (h : H p = some (.lst xs)) (h' : H q = some (.lst ys)) (l : xs.length + ys.length ≤ 1000000) (k : ∀ r, H r = none → Q (.ref r) (upd H r (.lst (xs ++ ys)))) : rCat (.ref p) (.ref q) H Q := ⟨p, q, xs, ys, rfl, rfl, h, h', Nat.le_trans l (by decide), k⟩
theorem g_rep1 (h : H p = some (.lst [v])) (h0 : 0 ≤ i) (l : i ≤ 1000000) (k : ∀ r, H r = none → Q (.ref r) (upd H r (.lst (List.replicate i.toNat v)))) : rRep (.ref p) (.int i) H Q := by
  refine ⟨p, i, [v], rfl, rfl, h, by omega, by omega, ?_, ?_⟩
  · show 1 * i.toNat ≤ sizeLine
    have : (1000000 : Nat) ≤ sizeLine := by decide
    omega
  · intro r hr
    have e : (List.replicate i.toNat [v]).flatten = List.replicate i.toNat v := by
      generalize i.toNat = n
      induction n with
      | zero => rfl
      | succ n ih => rw [List.replicate_succ, List.flatten_cons, ih, List.replicate_succ]; rfl
    rw [e]
    exact k r hr
theorem g_listL (h : SqL K H p xs) (k : ∀ l, H l = none → Q (.ref l) (upd H l (.lst xs))) : rListOf K [.ref p] H Q := ⟨p, xs, rfl, .inl h, k⟩
theorem g_listT (h : SqT K H p xs) (k : ∀ l, H l = none → Q (.ref l) (upd H l (.lst xs))) : rListOf K [.ref p] H Q := ⟨p, xs, rfl, .inr h, k⟩
theorem g_tupL (h : SqL K H p xs) (k : ∀ l, H l = none → Q (.ref l) (upd H l (.tup xs))) : rTupOf K [.ref p] H Q := ⟨p, xs, rfl, .inl ⟨h, k⟩⟩
theorem g_tupT (h : SqT K H p xs) (q : Q (.ref p) H) : rTupOf K [.ref p] H Q := ⟨p, xs, rfl, .inr ⟨h, q⟩⟩
end
/-! ### heaps -/
section
variable {H H' : Hp} {a b p q : Addr} {o u : HO}
/-- a new address is none of the known ones -/
theorem new_ne (h : H a = some o) (n : H p = none) : a ≠ p := ne_of_none h n
theorem new_of_upd (n : upd H a o p = none) : p ≠ a ∧ H p = none := by
  by_cases e : p = a
  · subst e; rw [upd_same] at n; cases n
  · exact ⟨e, by rw [upd_ne e] at n; exact n⟩
theorem at_upd (e : b ≠ a) (h : H b = some u) : upd H a o b = some u := by rw [upd_ne e]; exact h
theorem none_upd (e : b ≠ a) (h : H b = none) : upd H a o b = none := by rw [upd_ne e]; exact h
/-- all that is known but at ms stays -/
def Keep (ms : List Addr) (H H' : Hp) : Prop := ∀ b o, H b = some o → b ∉ ms → H' b = some o
theorem Keep.at {ms : List Addr} (k : Keep ms H H') (h : H b = some o) (n : b ∉ ms) : H' b = some o := k b o h n
theorem Keep.of_same (s : Same H H') : Keep [] H H' := fun b o h _ => s b o h
theorem Keep.refl (ms : List Addr) (H : Hp) : Keep ms H H := fun _ _ h _ => h
theorem Keep.trans {ms : List Addr} {H1 : Hp} (k : Keep ms H H1) (k' : Keep ms H1 H') : Keep ms H H' := fun b o h n => k' b o (k b o h n) n
theorem Keep.new {ms : List Addr} (k : Keep ms H H') (n : H' p = none) : Keep ms H (upd H' p o) := fun b u h m => at_upd (ne_of_none (k b u h m) n) (k b u h m)
theorem Keep.mut {ms : List Addr} (k : Keep ms H H') (m : p ∈ ms) : Keep ms H (upd H' p o) := fun b u h n => at_upd (fun e => n (e ▸ m)) (k b u h n)
theorem Keep.mutN {ms : List Addr} (k : Keep ms H H') (n : H p = none) : Keep ms H (upd H' p o) := fun b u h m => at_upd (ne_of_none h n) (k b u h m)
theorem Keep.seqL {ms : List Addr} {K : Frag} {xs : List V} (k : Keep ms H H') (h : SqL K H a xs) (n : a ∉ ms) : SqL K H' a xs := by
  rcases h with (h | ⟨o, h⟩) | h
  · exact .inl (.inl (k _ _ h n))
  · exact .inl (.inr ⟨o, k _ _ h n⟩)
  · exact .inr h
theorem Keep.seqT {ms : List Addr} {K : Frag} {xs : List V} (k : Keep ms H H') (h : SqT K H a xs) (n : a ∉ ms) : SqT K H' a xs := by
  rcases h with (h | ⟨o, h⟩) | h
  · exact .inl (.inl (k _ _ h n))
  · exact .inl (.inr ⟨o, k _ _ h n⟩)
  · exact .inr h
theorem Keep.free {H1 : Hp} (k : Keep [] H H1) (n : H1 p = none) : H p = none := by
  cases e : H p with
  | none => rfl
  | some o => rw [k p o e (by simp)] at n; cases n
end
open PySem PySem.Spec L2
section
variable {K : Frag} {σ : St} {H H' : Hp} {Q : VK} {D : Ends} {ta tb tc te tv : TE} {t u : TT} {ts us : TS} {g : TG} {tl : TA} {x y z v : V} {i j : Int} {p q a b C : Addr} {xs ys vs : List V} {r : R2}
/-! #### looks at the head of a goal -/
theorem hd_var {k : Nat} (q : tVar k σ H Q) : tVar k σ H Q := q
theorem hd_mul {g : Int → Int → V} (q : rI CMul g x y H Q) : rI CMul g x y H Q := q
theorem hd_div {g : Int → Int → V} (q : rI CDiv g x y H Q) : rI CDiv g x y H Q := q
theorem hd_mod {g : Int → Int → V} (q : rI (fun _ j => 0 < j) g x y H Q) : rI (fun _ j => 0 < j) g x y H Q := q
theorem hd_pow {g : Int → Int → V} (q : rI CPow g x y H Q) : rI CPow g x y H Q := q
theorem g_div {g : Int → Int → V} (h : 0 < j ∧ j < 1073741824) (q : Q (g i j) H) : rI CDiv g (.int i) (.int j) H Q := g_I h q
theorem g_mod {g : Int → Int → V} (h : 0 < j) (q : Q (g i j) H) : rI (fun _ j => 0 < j) g (.int i) (.int j) H Q := g_I h q
theorem g_pow {g : Int → Int → V} (h : 0 ≤ j ∧ j ≤ 1000000 ∧ i.natAbs < 2 ^ 64) (q : Q (g i j) H) : rI CPow g (.int i) (.int j) H Q := g_I h q
theorem hd_fld {f : Str} (q : tFldC C ta f σ H Q) : tFldC C ta f σ H Q := q
theorem hd_fldv {f : Str} {R : V → Prop} (q : ∃ a' dx fs v, x = V.ref a' ∧ H a' = some (.ins C dx fs) ∧ fs.lookup f = some v ∧ R v) : ∃ a' dx fs v, x = V.ref a' ∧ H a' = some (.ins C dx fs) ∧ fs.lookup f = some v ∧ R v := q
theorem hd_methv {f : Str} {R : Prop} (q : ∃ a' dx fs, x = V.ref a' ∧ H a' = some (.ins C dx fs) ∧ fs.lookup f = none ∧ R) : ∃ a' dx fs, x = V.ref a' ∧ H a' = some (.ins C dx fs) ∧ fs.lookup f = none ∧ R := q
theorem hd_lenQ (q : rLenQ K vs H Q) : rLenQ K vs H Q := q
theorem hd_aug {k : Nat} {f : Int → Int → Int} (q : tAug k te (ipI f) D σ H) : tAug k te (ipI f) D σ H := q
theorem hd_sfld {f : Str} (q : sFldC C ta tv f D σ H) : sFldC C ta tv f D σ H := q
theorem hd_sfldv {f : Str} {R : Hp → Prop} (q : ∃ a' dx fs, x = V.ref a' ∧ H a' = some (.ins C dx fs) ∧ fs.length < 1000 ∧ R (upd H a' (.ins C dx (putF f y fs)))) : ∃ a' dx fs, x = V.ref a' ∧ H a' = some (.ins C dx fs) ∧ fs.length < 1000 ∧ R (upd H a' (.ins C dx (putF f y fs))) := q
theorem pf0 {f : Str} {v : V} : putF f v [] = [(f, v)] := rfl
theorem pfs {f : Str} {v w : V} {r : List (Str × V)} : putF f v ((f, w) :: r) = (f, v) :: r := if_pos rfl
theorem pfn {f g : Str} {v w : V} {r r' : List (Str × V)} (h : ¬ g = f) (e : putF f v r = r') : putF f v ((g, w) :: r) = (g, w) :: r' := (if_neg h).trans (by rw [e])
theorem hd_setL {Q : Hp → Prop} (q : rSetL x y v H Q) : rSetL x y v H Q := q
theorem hd_tyL {R : Prop} (q : tyV K "list" x H ∧ R) : tyV K "list" x H ∧ R := q
theorem hd_listOf (q : rListOf K vs H Q) : rListOf K vs H Q := q
theorem nm1 {b x : Addr} (h : b ≠ x) : b ∉ [x] := by simpa using h
theorem nm2 {b x y : Addr} (h : b ≠ x) (h2 : b ≠ y) : b ∉ [x, y] := by simp [h, h2]
theorem nm3 {b x y z : Addr} (h : b ≠ x) (h2 : b ≠ y) (h3 : b ≠ z) : b ∉ [x, y, z] := by simp [h, h2, h3]
theorem nm4 {b x y z u : Addr} (h : b ≠ x) (h2 : b ≠ y) (h3 : b ≠ z) (h4 : b ≠ u) : b ∉ [x, y, z, u] := by simp [h, h2, h3, h4]
/-! #### what a new address is not -/
section
variable {H : Hp} {p q : Addr} {o : HO}
theorem nu1 (n : upd H q o p = none) : p ≠ q := (new_of_upd n).1
theorem fr1 (n : upd H q o p = none) : H p = none := (new_of_upd n).2
theorem nu2 {q2 : Addr} {o2 : HO} (n : upd (upd H q o) q2 o2 p = none) : p ≠ q := nu1 (new_of_upd n).2
theorem fr2 {q2 : Addr} {o2 : HO} (n : upd (upd H q o) q2 o2 p = none) : H p = none := fr1 (new_of_upd n).2
theorem nu3 {q2 : Addr} {o2 : HO} {q3 : Addr} {o3 : HO} (n : upd (upd (upd H q o) q2 o2) q3 o3 p = none) : p ≠ q := nu2 (new_of_upd n).2
theorem fr3 {q2 : Addr} {o2 : HO} {q3 : Addr} {o3 : HO} (n : upd (upd (upd H q o) q2 o2) q3 o3 p = none) : H p = none := fr2 (new_of_upd n).2
theorem nu4 {q2 : Addr} {o2 : HO} {q3 : Addr} {o3 : HO} {q4 : Addr} {o4 : HO} (n : upd (upd (upd (upd H q o) q2 o2) q3 o3) q4 o4 p = none) : p ≠ q := nu3 (new_of_upd n).2
theorem fr4 {q2 : Addr} {o2 : HO} {q3 : Addr} {o3 : HO} {q4 : Addr} {o4 : HO} (n : upd (upd (upd (upd H q o) q2 o2) q3 o3) q4 o4 p = none) : H p = none := fr3 (new_of_upd n).2
theorem nu5 {q2 : Addr} {o2 : HO} {q3 : Addr} {o3 : HO} {q4 : Addr} {o4 : HO} {q5 : Addr} {o5 : HO} (n : upd (upd (upd (upd (upd H q o) q2 o2) q3 o3) q4 o4) q5 o5 p = none) : p ≠ q := nu4 (new_of_upd n).2
theorem fr5 {q2 : Addr} {o2 : HO} {q3 : Addr} {o3 : HO} {q4 : Addr} {o4 : HO} {q5 : Addr} {o5 : HO} (n : upd (upd (upd (upd (upd H q o) q2 o2) q3 o3) q4 o4) q5 o5 p = none) : H p = none := fr4 (new_of_upd n).2
theorem nu6 {q2 : Addr} {o2 : HO} {q3 : Addr} {o3 : HO} {q4 : Addr} {o4 : HO} {q5 : Addr} {o5 : HO} {q6 : Addr} {o6 : HO} (n : upd (upd (upd (upd (upd (upd H q o) q2 o2) q3 o3) q4 o4) q5 o5) q6 o6 p = none) : p ≠ q := nu5 (new_of_upd n).2
theorem fr6 {q2 : Addr} {o2 : HO} {q3 : Addr} {o3 : HO} {q4 : Addr} {o4 : HO} {q5 : Addr} {o5 : HO} {q6 : Addr} {o6 : HO} (n : upd (upd (upd (upd (upd (upd H q o) q2 o2) q3 o3) q4 o4) q5 o5) q6 o6 p = none) : H p = none := fr5 (new_of_upd n).2
theorem nu7 {q2 : Addr} {o2 : HO} {q3 : Addr} {o3 : HO} {q4 : Addr} {o4 : HO} {q5 : Addr} {o5 : HO} {q6 : Addr} {o6 : HO} {q7 : Addr} {o7 : HO} (n : upd (upd (upd (upd (upd (upd (upd H q o) q2 o2) q3 o3) q4 o4) q5 o5) q6 o6) q7 o7 p = none) : p ≠ q := nu6 (new_of_upd n).2
theorem fr7 {q2 : Addr} {o2 : HO} {q3 : Addr} {o3 : HO} {q4 : Addr} {o4 : HO} {q5 : Addr} {o5 : HO} {q6 : Addr} {o6 : HO} {q7 : Addr} {o7 : HO} (n : upd (upd (upd (upd (upd (upd (upd H q o) q2 o2) q3 o3) q4 o4) q5 o5) q6 o6) q7 o7 p = none) : H p = none := fr6 (new_of_upd n).2
theorem nu8 {q2 : Addr} {o2 : HO} {q3 : Addr} {o3 : HO} {q4 : Addr} {o4 : HO} {q5 : Addr} {o5 : HO} {q6 : Addr} {o6 : HO} {q7 : Addr} {o7 : HO} {q8 : Addr} {o8 : HO} (n : upd (upd (upd (upd (upd (upd (upd (upd H q o) q2 o2) q3 o3) q4 o4) q5 o5) q6 o6) q7 o7) q8 o8 p = none) : p ≠ q := nu7 (new_of_upd n).2
theorem fr8 {q2 : Addr} {o2 : HO} {q3 : Addr} {o3 : HO} {q4 : Addr} {o4 : HO} {q5 : Addr} {o5 : HO} {q6 : Addr} {o6 : HO} {q7 : Addr} {o7 : HO} {q8 : Addr} {o8 : HO} (n : upd (upd (upd (upd (upd (upd (upd (upd H q o) q2 o2) q3 o3) q4 o4) q5 o5) q6 o6) q7 o7) q8 o8 p = none) : H p = none := fr7 (new_of_upd n).2
theorem nu9 {q2 : Addr} {o2 : HO} {q3 : Addr} {o3 : HO} {q4 : Addr} {o4 : HO} {q5 : Addr} {o5 : HO} {q6 : Addr} {o6 : HO} {q7 : Addr} {o7 : HO} {q8 : Addr} {o8 : HO} {q9 : Addr} {o9 : HO} (n : upd (upd (upd (upd (upd (upd (upd (upd (upd H q o) q2 o2) q3 o3) q4 o4) q5 o5) q6 o6) q7 o7) q8 o8) q9 o9 p = none) : p ≠ q := nu8 (new_of_upd n).2
theorem fr9 {q2 : Addr} {o2 : HO} {q3 : Addr} {o3 : HO} {q4 : Addr} {o4 : HO} {q5 : Addr} {o5 : HO} {q6 : Addr} {o6 : HO} {q7 : Addr} {o7 : HO} {q8 : Addr} {o8 : HO} {q9 : Addr} {o9 : HO} (n : upd (upd (upd (upd (upd (upd (upd (upd (upd H q o) q2 o2) q3 o3) q4 o4) q5 o5) q6 o6) q7 o7) q8 o8) q9 o9 p = none) : H p = none := fr8 (new_of_upd n).2
theorem nu10 {q2 : Addr} {o2 : HO} {q3 : Addr} {o3 : HO} {q4 : Addr} {o4 : HO} {q5 : Addr} {o5 : HO} {q6 : Addr} {o6 : HO} {q7 : Addr} {o7 : HO} {q8 : Addr} {o8 : HO} {q9 : Addr} {o9 : HO} {q10 : Addr} {o10 : HO} (n : upd (upd (upd (upd (upd (upd (upd (upd (upd (upd H q o) q2 o2) q3 o3) q4 o4) q5 o5) q6 o6) q7 o7) q8 o8) q9 o9) q10 o10 p = none) : p ≠ q := nu9 (new_of_upd n).2
theorem fr10 {q2 : Addr} {o2 : HO} {q3 : Addr} {o3 : HO} {q4 : Addr} {o4 : HO} {q5 : Addr} {o5 : HO} {q6 : Addr} {o6 : HO} {q7 : Addr} {o7 : HO} {q8 : Addr} {o8 : HO} {q9 : Addr} {o9 : HO} {q10 : Addr} {o10 : HO} (n : upd (upd (upd (upd (upd (upd (upd (upd (upd (upd H q o) q2 o2) q3 o3) q4 o4) q5 o5) q6 o6) q7 o7) q8 o8) q9 o9) q10 o10 p = none) : H p = none := fr9 (new_of_upd n).2
theorem nu11 {q2 : Addr} {o2 : HO} {q3 : Addr} {o3 : HO} {q4 : Addr} {o4 : HO} {q5 : Addr} {o5 : HO} {q6 : Addr} {o6 : HO} {q7 : Addr} {o7 : HO} {q8 : Addr} {o8 : HO} {q9 : Addr} {o9 : HO} {q10 : Addr} {o10 : HO} {q11 : Addr} {o11 : HO} (n : upd (upd (upd (upd (upd (upd (upd (upd (upd (upd (upd H q o) q2 o2) q3 o3) q4 o4) q5 o5) q6 o6) q7 o7) q8 o8) q9 o9) q10 o10) q11 o11 p = none) : p ≠ q := nu10 (new_of_upd n).2
theorem fr11 {q2 : Addr} {o2 : HO} {q3 : Addr} {o3 : HO} {q4 : Addr} {o4 : HO} {q5 : Addr} {o5 : HO} {q6 : Addr} {o6 : HO} {q7 : Addr} {o7 : HO} {q8 : Addr} {o8 : HO} {q9 : Addr} {o9 : HO} {q10 : Addr} {o10 : HO} {q11 : Addr} {o11 : HO} (n : upd (upd (upd (upd (upd (upd (upd (upd (upd (upd (upd H q o) q2 o2) q3 o3) q4 o4) q5 o5) q6 o6) q7 o7) q8 o8) q9 o9) q10 o10) q11 o11 p = none) : H p = none := fr10 (new_of_upd n).2
theorem nu12 {q2 : Addr} {o2 : HO} {q3 : Addr} {o3 : HO} {q4 : Addr} {o4 : HO} {q5 : Addr} {o5 : HO} {q6 : Addr} {o6 : HO} {q7 : Addr} {o7 : HO} {q8 : Addr} {o8 : HO} {q9 : Addr} {o9 : HO} {q10 : Addr} {o10 : HO} {q11 : Addr} {o11 : HO} {q12 : Addr} {o12 : HO} (n : upd (upd (upd (upd (upd (upd (upd (upd (upd (upd (upd (upd H q o) q2 o2) q3 o3) q4 o4) q5 o5) q6 o6) q7 o7) q8 o8) q9 o9) q10 o10) q11 o11) q12 o12 p = none) : p ≠ q := nu11 (new_of_upd n).2
theorem fr12 {q2 : Addr} {o2 : HO} {q3 : Addr} {o3 : HO} {q4 : Addr} {o4 : HO} {q5 : Addr} {o5 : HO} {q6 : Addr} {o6 : HO} {q7 : Addr} {o7 : HO} {q8 : Addr} {o8 : HO} {q9 : Addr} {o9 : HO} {q10 : Addr} {o10 : HO} {q11 : Addr} {o11 : HO} {q12 : Addr} {o12 : HO} (n : upd (upd (upd (upd (upd (upd (upd (upd (upd (upd (upd (upd H q o) q2 o2) q3 o3) q4 o4) q5 o5) q6 o6) q7 o7) q8 o8) q9 o9) q10 o10) q11 o11) q12 o12 p = none) : H p = none := fr11 (new_of_upd n).2
end
theorem ne_fresh2 {o : HO} (h : H a = some o) (n : H p = none) : a ≠ p := ne_of_none h n
theorem ne_fresh {o : HO} (n : H p = none) (h : H a = some o) : a ≠ p := ne_of_none h n
/-- the place that is written was new, or holds what is no list and no locked thing -/
def NoSeq (H : Hp) (p : Addr) : Prop := ∀ u, H p = some u → match u with | .lst _ => False | .tup _ => False | .frz _ _ => False | _ => True
theorem noseq_new (n : H p = none) : NoSeq H p := fun u e => by rw [n] at e; cases e
theorem noseq_ins {C dx : Addr} {fs : List (Str × V)} (h : H p = some (.ins C dx fs)) : NoSeq H p := fun u e => by rw [h] at e; cases e; trivial
theorem noseq_dk {kvs : List (Key × V)} (h : H p = some (.dK kvs)) : NoSeq H p := fun u e => by rw [h] at e; cases e; trivial
theorem noseq_dt {kvs : List (List Key × V)} (h : H p = some (.dT kvs)) : NoSeq H p := fun u e => by rw [h] at e; cases e; trivial
theorem seqL_upd {o : HO} (n : NoSeq H p) (h : SqL K H a xs) : SqL K (upd H p o) a xs := by
  rcases h with (h | ⟨u, h⟩) | h
  · exact .inl (.inl (at_upd (fun z => by subst z; exact n _ h) h))
  · exact .inl (.inr ⟨u, at_upd (fun z => by subst z; exact n _ h) h⟩)
  · exact .inr h
theorem seqT_upd {o : HO} (n : NoSeq H p) (h : SqT K H a xs) : SqT K (upd H p o) a xs := by
  rcases h with (h | ⟨u, h⟩) | h
  · exact .inl (.inl (at_upd (fun z => by subst z; exact n _ h) h))
  · exact .inl (.inr ⟨u, at_upd (fun z => by subst z; exact n _ h) h⟩)
  · exact .inr h
/-- a tuple stays where a list is changed -/
theorem seqT_lst {o : HO} {ys : List V} (n : H p = some (.lst ys)) (h : SqT K H a xs) : SqT K (upd H p o) a xs := by
  rcases h with (h | ⟨u, h⟩) | h
  · exact .inl (.inl (at_upd (fun z => by subst z; rw [n] at h; cases h) h))
  · exact .inl (.inr ⟨u, at_upd (fun z => by subst z; rw [n] at h; cases h) h⟩)
  · exact .inr h
theorem seqL_new {o : HO} (n : H p = none) (h : SqL K H a xs) : SqL K (upd H p o) a xs := by
  rcases h with (h | ⟨o, h⟩) | h
  · exact .inl (.inl (at_upd (ne_of_none h n) h))
  · exact .inl (.inr ⟨o, at_upd (ne_of_none h n) h⟩)
  · exact .inr h
theorem seqT_new {o : HO} (n : H p = none) (h : SqT K H a xs) : SqT K (upd H p o) a xs := by
  rcases h with (h | ⟨o, h⟩) | h
  · exact .inl (.inl (at_upd (ne_of_none h n) h))
  · exact .inl (.inr ⟨o, at_upd (ne_of_none h n) h⟩)
  · exact .inr h
end
open PySem PySem.Spec L2
/-! ### loops -/
section
variable {K : Frag} {σ : St} {H H' : Hp} {Q : VK} {D : Ends} {ta tb tc te tv : TE} {tt : TT} {ts us : TS} {g : TG} {tl : TA} {x y z v : V} {i j : Int} {p q a b C : Addr} {xs ys : List V} {wi : TI} {ns : List Nat}
theorem g_for {n b c : St → Hp → Prop} {r : VK} (q : wi σ H fun J H1 => ∃ W : Nat → Nat → St → Hp → Prop, (∃ m, W 0 m σ H1) ∧ ∀ i m σ H, W i m σ H →
  (J.stop i H ∧ n σ H) ∨ (J.go i H ∧ ∃ N : St → Hp → Prop, (∀ σ' H', N σ' H' → ∃ m', m' < m ∧ W (i + 1) m' σ' H') ∧ ∀ x H', J.yld i H x H' → g x σ H' fun σ2 H2 => ts ⟨N, r, n, N⟩ σ2 H2)) : tFor wi g ts ⟨n, r, b, c⟩ σ H := q
theorem g_iR1 {R : It → Hp → Prop} (q : tl σ H fun vs H1 => ∃ j : Int, vs = [.int j] ∧ -(2 ^ 62) ≤ j ∧ j < 2 ^ 62 ∧ R (Itr 0 j.toNat) H1) : iRng1 tl σ H R := q
theorem g_iR2 {R : It → Hp → Prop} (q : tl σ H fun vs H1 => ∃ i j : Int, vs = [.int i, .int j] ∧ (-(2 ^ 62) ≤ i ∧ i < 2 ^ 62 ∧ -(2 ^ 62) ≤ j ∧ j < 2 ^ 62) ∧ R (Itr i (j - i).toNat) H1) : iRng2 tl σ H R := q
theorem g_iL {R : It → Hp → Prop} (q : ta σ H fun x H1 => ∃ a, x = .ref a ∧ (∃ xs, SqL K H1 a xs) ∧ R (Itl K a) H1) : iList K ta σ H R := q
theorem g_iT {R : It → Hp → Prop} (q : ta σ H fun x H1 => ∃ a, x = .ref a ∧ (∃ xs, SqT K H1 a xs) ∧ R (Itt K a) H1) : iTup K ta σ H R := q
/-- for k in range(j) -/
theorem l_rng1 {n : St → Hp → Prop} {r : VK} (Pv : Nat → St → Hp → Prop) (hb : -(2 ^ 62) ≤ j ∧ j < 2 ^ 62) (h0 : Pv 0 σ H)
    (hs : ∀ (i : Nat) σ H, (i : Int) < j → Pv i σ H → g (.int (i : Int)) σ H fun σ2 H2 => ts ⟨Pv (i + 1), r, n, Pv (i + 1)⟩ σ2 H2) (hd : ∀ σ H, Pv j.toNat σ H → n σ H) :
    ∃ j' : Int, [V.int j] = [.int j'] ∧ -(2 ^ 62) ≤ j' ∧ j' < 2 ^ 62 ∧ ∃ W : Nat → Nat → St → Hp → Prop, (∃ m, W 0 m σ H) ∧ ∀ i m σ H, W i m σ H →
      ((Itr 0 j'.toNat).stop i H ∧ n σ H) ∨ ((Itr 0 j'.toNat).go i H ∧ ∃ N : St → Hp → Prop, (∀ σ' H', N σ' H' → ∃ m', m' < m ∧ W (i + 1) m' σ' H') ∧ ∀ x H', (Itr 0 j'.toNat).yld i H x H' → g x σ H' fun σ2 H2 => ts ⟨N, r, n, N⟩ σ2 H2) :=
  ⟨j, rfl, hb.1, hb.2, for_range (D := ⟨n, r, n, n⟩) (lo := 0) (n := j.toNat) Pv h0 (fun i σ H hi p => by rw [Int.zero_add]; exact hs i σ H (by omega) p) hd⟩
/-- for k in range(i, j) -/
theorem l_rng2 {n : St → Hp → Prop} {r : VK} (Pv : Nat → St → Hp → Prop) (hb : -(2 ^ 62) ≤ i ∧ i < 2 ^ 62 ∧ -(2 ^ 62) ≤ j ∧ j < 2 ^ 62) (h0 : Pv 0 σ H)
    (hs : ∀ (k : Nat) σ H, i + (k : Int) < j → Pv k σ H → g (.int (i + (k : Int))) σ H fun σ2 H2 => ts ⟨Pv (k + 1), r, n, Pv (k + 1)⟩ σ2 H2) (hd : ∀ σ H, Pv (j - i).toNat σ H → n σ H) :
    ∃ i' j' : Int, [V.int i, V.int j] = [.int i', .int j'] ∧ (-(2 ^ 62) ≤ i' ∧ i' < 2 ^ 62 ∧ -(2 ^ 62) ≤ j' ∧ j' < 2 ^ 62) ∧ ∃ W : Nat → Nat → St → Hp → Prop, (∃ m, W 0 m σ H) ∧ ∀ i m σ H, W i m σ H →
      ((Itr i' (j' - i').toNat).stop i H ∧ n σ H) ∨ ((Itr i' (j' - i').toNat).go i H ∧ ∃ N : St → Hp → Prop, (∀ σ' H', N σ' H' → ∃ m', m' < m ∧ W (i + 1) m' σ' H') ∧ ∀ x H', (Itr i' (j' - i').toNat).yld i H x H' → g x σ H' fun σ2 H2 => ts ⟨N, r, n, N⟩ σ2 H2) :=
  ⟨i, j, rfl, hb, for_range (D := ⟨n, r, n, n⟩) (lo := i) (n := (j - i).toNat) Pv h0 (fun k σ H hi p => hs k σ H (by omega) p) hd⟩
/-- for x in xs, xs standing still -/
theorem l_list {n : St → Hp → Prop} {r : VK} (Pv : Nat → St → Hp → Prop) (h : SqL K H a xs) (h0 : Pv 0 σ H) (hl : ∀ i σ H, i ≤ xs.length → Pv i σ H → SqL K H a xs)
    (hs : ∀ i x σ H, xs[i]? = some x → Pv i σ H → g x σ H fun σ2 H2 => ts ⟨Pv (i + 1), r, n, Pv (i + 1)⟩ σ2 H2) (hd : ∀ σ H, Pv xs.length σ H → n σ H) :
    ∃ a', V.ref a = .ref a' ∧ (∃ xs, SqL K H a' xs) ∧ ∃ W : Nat → Nat → St → Hp → Prop, (∃ m, W 0 m σ H) ∧ ∀ i m σ H, W i m σ H →
      ((Itl K a').stop i H ∧ n σ H) ∨ ((Itl K a').go i H ∧ ∃ N : St → Hp → Prop, (∀ σ' H', N σ' H' → ∃ m', m' < m ∧ W (i + 1) m' σ' H') ∧ ∀ x H', (Itl K a').yld i H x H' → g x σ H' fun σ2 H2 => ts ⟨N, r, n, N⟩ σ2 H2) :=
  ⟨a, rfl, ⟨xs, h⟩, for_list (D := ⟨n, r, n, n⟩) Pv h0 hl hs hd⟩
theorem l_tup {n : St → Hp → Prop} {r : VK} (Pv : Nat → St → Hp → Prop) (h : SqT K H a xs) (h0 : Pv 0 σ H) (hl : ∀ i σ H, i ≤ xs.length → Pv i σ H → SqT K H a xs)
    (hs : ∀ i x σ H, xs[i]? = some x → Pv i σ H → g x σ H fun σ2 H2 => ts ⟨Pv (i + 1), r, n, Pv (i + 1)⟩ σ2 H2) (hd : ∀ σ H, Pv xs.length σ H → n σ H) :
    ∃ a', V.ref a = .ref a' ∧ (∃ xs, SqT K H a' xs) ∧ ∃ W : Nat → Nat → St → Hp → Prop, (∃ m, W 0 m σ H) ∧ ∀ i m σ H, W i m σ H →
      ((Itt K a').stop i H ∧ n σ H) ∨ ((Itt K a').go i H ∧ ∃ N : St → Hp → Prop, (∀ σ' H', N σ' H' → ∃ m', m' < m ∧ W (i + 1) m' σ' H') ∧ ∀ x H', (Itt K a').yld i H x H' → g x σ H' fun σ2 H2 => ts ⟨N, r, n, N⟩ σ2 H2) :=
  ⟨a, rfl, ⟨xs, h⟩, for_tup (D := ⟨n, r, n, n⟩) Pv h0 hl hs hd⟩
theorem g_lc (q : wi σ H fun J H1 => ∀ D, H1 D = none → ∃ W : Nat → Nat → Hp → Prop, (∃ m, W 0 m (upd H1 D (.lst []))) ∧ ∀ i m H, W i m H →
  (J.stop i H ∧ Q (.ref D) H) ∨ (J.go i H ∧ ∃ Nx : Hp → Prop, (∀ H', Nx H' → ∃ m', m' < m ∧ W (i + 1) m' H') ∧ ∀ x H', J.yld i H x H' → g x (wipe σ ns) H' fun σ2 H2 => wipe σ2 ns = wipe σ ns ∧ tt σ2 H2 fun b H3 =>
    if b = true then te σ2 H3 fun y H4 => ∃ acc, H4 D = some (.lst acc) ∧ acc.length < sizeLine ∧ Nx (upd H4 D (.lst (acc ++ [y]))) else Nx H3)) : tLc wi g tt te ns σ H Q := q
theorem g_sosc (q : wi σ H fun J H1 => ∀ (D : Addr) (so : List Int → HO), H1 D = none → ∃ W : Nat → Nat → List Int → Hp → Prop, (∃ m, W 0 m [] (upd H1 D (so []))) ∧ ∀ i m l H, W i m l H →
  (J.stop i H ∧ H D = some (so l) ∧ many l < 64 ∧ ∀ (out : List Int) (p : Addr), out.Pairwise (· < ·) → (∀ k : Int, k ∈ out ↔ k ∈ l) → H p = none → Q (.ref p) (upd H p (.lst (out.map V.int)))) ∨
  (J.go i H ∧ ∃ Nx : List Int → Hp → Prop, (∀ l' H', Nx l' H' → ∃ m', m' < m ∧ W (i + 1) m' l' H') ∧ ∀ x H', J.yld i H x H' → g x (wipe σ ns) H' fun σ2 H2 => wipe σ2 ns = wipe σ ns ∧ tt σ2 H2 fun b H3 =>
    if b = true then te σ2 H3 fun y H4 => ∃ c : Int, y = .int c ∧ H4 D = some (so l) ∧ many l < 1000 ∧ Nx (c :: l) (upd H4 D (so (c :: l))) else Nx l H3)) : tSoSc wi g tt te ns σ H Q := q
/-- sorted({.. for x in xs ..}), xs a list that stands still -/
theorem l_sosc (Pv : Addr → (List Int → HO) → Nat → List Int → Hp → Prop) (h : SqL K H a xs) (h0 : ∀ D so, H D = none → Pv D so 0 [] (upd H D (so []))) (hl : ∀ D so i l H', Pv D so i l H' → SqL K H' a xs)
    (hs : ∀ D so i x l H', xs[i]? = some x → Pv D so i l H' → g x (wipe σ ns) H' fun σ2 H2 => wipe σ2 ns = wipe σ ns ∧ tt σ2 H2 fun b H3 =>
      if b = true then te σ2 H3 fun y H4 => ∃ c : Int, y = .int c ∧ H4 D = some (so l) ∧ many l < 1000 ∧ Pv D so (i + 1) (c :: l) (upd H4 D (so (c :: l))) else Pv D so (i + 1) l H3)
    (hd : ∀ D so l H', Pv D so xs.length l H' → H' D = some (so l) ∧ many l < 64 ∧ ∀ (out : List Int) (p : Addr), out.Pairwise (· < ·) → (∀ k : Int, k ∈ out ↔ k ∈ l) → H' p = none → Q (.ref p) (upd H' p (.lst (out.map V.int)))) :
    ∃ a', V.ref a = .ref a' ∧ (∃ xs, SqL K H a' xs) ∧ ∀ (D : Addr) (so : List Int → HO), H D = none → ∃ W : Nat → Nat → List Int → Hp → Prop, (∃ m, W 0 m [] (upd H D (so []))) ∧ ∀ i m l H, W i m l H →
      ((Itl K a').stop i H ∧ H D = some (so l) ∧ many l < 64 ∧ ∀ (out : List Int) (p : Addr), out.Pairwise (· < ·) → (∀ k : Int, k ∈ out ↔ k ∈ l) → H p = none → Q (.ref p) (upd H p (.lst (out.map V.int)))) ∨
      ((Itl K a').go i H ∧ ∃ Nx : List Int → Hp → Prop, (∀ l' H', Nx l' H' → ∃ m', m' < m ∧ W (i + 1) m' l' H') ∧ ∀ x H', (Itl K a').yld i H x H' → g x (wipe σ ns) H' fun σ2 H2 => wipe σ2 ns = wipe σ ns ∧ tt σ2 H2 fun b H3 =>
        if b = true then te σ2 H3 fun y H4 => ∃ c : Int, y = .int c ∧ H4 D = some (so l) ∧ many l < 1000 ∧ Nx (c :: l) (upd H4 D (so (c :: l))) else Nx l H3) := by
  refine ⟨a, rfl, ⟨xs, h⟩, fun D so hD => ⟨fun i m l H' => m = xs.length - i ∧ i ≤ xs.length ∧ Pv D so i l H', ⟨xs.length, by simp, Nat.zero_le _, h0 D so hD⟩, ?_⟩⟩
  rintro i m l H1 ⟨rfl, hi, p⟩
  have q := hl D so i l H1 p
  by_cases hlt : i < xs.length
  · refine .inr ⟨⟨xs, xs[i], q, by simp [hlt]⟩, Pv D so (i + 1), fun l' H' p' => ⟨xs.length - (i + 1), by omega, rfl, hlt, p'⟩, ?_⟩
    rintro x H' ⟨rfl, y⟩
    exact hs D so i x l _ (y xs q) p
  · obtain rfl : i = xs.length := by omega
    exact .inl ⟨⟨xs, q, Nat.le_refl _⟩, hd D so l H1 p⟩
end
/-! Own work: nested data (lists, tuples of whole numbers, texts, None) as it is compared; isinstance. -/
open PySem PySem.Spec L2
/-- can be compared: texts in bounds, at most n deep -/
def Fine (n : Nat) (d : PyData) : Prop := d.canLay0 = true ∧ d.depth ≤ n
theorem Fine.shaped {d : PyData} {n : Nat} (h : Fine n d) (hn : n ≤ 64 := by decide) : SeqAt.shaped d = true := by
  unfold SeqAt.shaped
  rw [h.1, decide_eq_true (Nat.le_trans h.2 hn)]
  rfl
theorem Fine.up {d : PyData} {n m : Nat} (h : Fine n d) (hn : n ≤ m) : Fine m d := ⟨h.1, Nat.le_trans h.2 hn⟩
theorem fine_none : Fine 0 .none := ⟨rfl, Nat.le_refl _⟩
theorem fine_bool (b : Bool) : Fine 0 (.bool b) := ⟨rfl, Nat.le_refl _⟩
theorem fine_int (i : Int) : Fine 0 (.int i) := ⟨rfl, Nat.le_refl _⟩
theorem fine_str {x : Str} (h : (PyData.str x).canLay0 = true) : Fine 0 (.str x) := ⟨h, Nat.le_refl _⟩
theorem canLayAll_of : ∀ {ds : List PyData}, (∀ d ∈ ds, d.canLay0 = true) → PyData.canLayAll0 ds = true
  | [], _ => rfl
  | d :: ds, h => by
    show (d.canLay0 && PyData.canLayAll0 ds) = true
    rw [h d (by simp), canLayAll_of fun x hx => h x (by simp [hx])]
    rfl
theorem depthAll_of : ∀ {ds : List PyData} {n : Nat}, (∀ d ∈ ds, d.depth ≤ n) → PyData.depthAll ds ≤ n
  | [], _, _ => Nat.zero_le _
  | d :: ds, n, h => by
    show max d.depth (PyData.depthAll ds) ≤ n
    exact Nat.max_le.mpr ⟨h d (by simp), depthAll_of fun x hx => h x (by simp [hx])⟩
theorem fine_list {ds : List PyData} {n : Nat} (h : ∀ d ∈ ds, Fine n d) : Fine (n + 1) (.list ds) :=
  ⟨canLayAll_of fun d hd => (h d hd).1, Nat.succ_le_succ (depthAll_of fun d hd => (h d hd).2)⟩
theorem fine_tup {ds : List PyData} {n : Nat} (h : ∀ d ∈ ds, Fine n d) : Fine (n + 1) (.tuple ds) :=
  ⟨canLayAll_of fun d hd => (h d hd).1, Nat.succ_le_succ (depthAll_of fun d hd => (h d hd).2)⟩
section
variable {K : Frag} {H H' : Hp} {Q : VK} {x y : V} {d e : PyData} {p q a b : Addr} {xs ys : List V} {i j : Int}
theorem eqv_self {n : Nat} (h : Fine n d) : PyData.eqv d d = true := SeqAt.eqv_refl d h.1
theorem g_eqD {n : Nat} (hx : Dp K H x d) (hy : Dp K H y d) (f : Fine n d) (q : Q (.bl true) H) (hn : n ≤ 64 := by decide) : rEqD K x y H Q := ⟨d, d, hx, hy, f.shaped hn, f.shaped hn, by rw [eqv_self f]; exact q⟩
theorem g_neD {n : Nat} (hx : Dp K H x d) (hy : Dp K H y d) (f : Fine n d) (q : Q (.bl false) H) (hn : n ≤ 64 := by decide) : rNeD K x y H Q := ⟨d, d, hx, hy, f.shaped hn, f.shaped hn, by rw [eqv_self f]; exact q⟩
theorem dpAll_of {ds : List PyData} (hl : xs.length = ds.length) (h : ∀ (i : Nat) v d, xs[i]? = some v → ds[i]? = some d → Dp K H v d) : DpAll K H xs ds := by
  induction xs generalizing ds with
  | nil =>
    cases ds with
    | nil => exact .nil
    | cons d ds => cases hl
  | cons v vs ih =>
    cases ds with
    | nil => cases hl
    | cons d ds => exact .cons (h 0 v d rfl rfl) (ih (by simpa using hl) fun i v d e1 e2 => h (i + 1) v d (by simpa using e1) (by simpa using e2))
theorem dpAll_ints : ∀ ns : List Int, DpAll K H (ns.map V.int) (ns.map PyData.int)
  | [] => .nil
  | n :: ns => .cons (.int n) (dpAll_ints ns)
theorem dp_ints {ns : List Int} (h : SqL K H p (ns.map V.int)) : Dp K H (.ref p) (.list (ns.map PyData.int)) := .lst h (dpAll_ints ns)
theorem fine_ints (ns : List Int) : Fine 1 (.list (ns.map PyData.int)) := fine_list fun d hd => by
  obtain ⟨n, _, rfl⟩ := List.mem_map.mp hd
  exact fine_int n
theorem fine_intsT (ns : List Int) : Fine 1 (.tuple (ns.map PyData.int)) := fine_tup fun d hd => by
  obtain ⟨n, _, rfl⟩ := List.mem_map.mp hd
  exact fine_int n
/-! ### isinstance -/
theorem g_isi {t u : Value} {c : V} {r : Bool} (hc : ClsV c u) (ht : TyX K H x t) (hk : PySem.W.kitOne K t u = some r) (q : Q (.bl r) H) : rIsi K [x, c] H Q := ⟨x, c, t, u, r, rfl, hc, ht, hk, q⟩
theorem g_isInt (q : Q (.bl true) H) : rIsi K [.int i, .ty "int"] H Q := g_isi (.ty _) (.base (.int i)) (kit_ty (by decide +kernel)) q
theorem g_isIntB (q : Q (.bl false) H) : rIsi K [.int i, .ty "bool"] H Q := g_isi (.ty _) (.base (.int i)) (kit_ty (by decide +kernel)) q
theorem g_isBl {b : Bool} (q : Q (.bl true) H) : rIsi K [.bl b, .ty "bool"] H Q := g_isi (.ty _) (.base (.bl b)) (kit_ty (by decide +kernel)) q
theorem g_isBlI {b : Bool} (q : Q (.bl true) H) : rIsi K [.bl b, .ty "int"] H Q := g_isi (.ty _) (.base (.bl b)) (kit_ty (by decide +kernel)) q
theorem g_isNonI (q : Q (.bl false) H) : rIsi K [.non, .ty "int"] H Q := g_isi (.ty _) (.base .non) (kit_ty (by decide +kernel)) q
theorem g_isLst (h : H p = some (.lst xs)) (q : Q (.bl true) H) : rIsi K [.ref p, .ty "list"] H Q := g_isi (.ty _) (.base (.lst h)) (kit_ty (by decide +kernel)) q
theorem g_isTup (h : H p = some (.tup xs)) (q : Q (.bl true) H) : rIsi K [.ref p, .ty "tuple"] H Q := g_isi (.ty _) (.base (.tup h)) (kit_ty (by decide +kernel)) q
theorem g_isDict {kvs : List (Key × V)} (h : H p = some (.dK kvs)) (q : Q (.bl true) H) : rIsi K [.ref p, .ty "dict"] H Q := g_isi (.ty _) (.base (.dK h)) (kit_ty (by decide +kernel)) q
theorem g_isStr {z : Str} (q : Q (.bl true) H) : rIsi K [.str z, .ty "str"] H Q := g_isi (.ty _) (.base (.str z)) (kit_ty (by decide +kernel)) q
/-! ### is None, by what is known -/
theorem g_isN {r : Bool} (e : decide (x = .non) = r) (q : Q (.bl r) H) : rIsN x .non H Q := ⟨rfl, by rw [e]; exact q⟩
theorem g_notN {r : Bool} (e : (!decide (x = .non)) = r) (q : Q (.bl r) H) : rNotN x .non H Q := ⟨rfl, by rw [e]; exact q⟩
end
/-! Own work: membership of whole numbers, sorted lists, texts, caught errors. -/
open PySem PySem.Spec L2
section
variable {K : Frag} {H H' : Hp} {Q : VK} {x y : V} {d e : PyData} {p q a b : Addr} {xs ys : List V} {i j : Int}
theorem g_itNT {A B : Prop} (q : B) : if (!true) = true then A else B := q
theorem g_itNF {A B : Prop} (q : A) : if (!false) = true then A else B := q
theorem flat_ints (ns : List Int) : (ns.map V.int).all flatV = true := by
  rw [List.all_eq_true]
  intro v hv
  obtain ⟨n, _, rfl⟩ := List.mem_map.mp hv
  rfl
theorem flat_strs (ns : List Str) : (ns.map V.str).all flatV = true := by
  rw [List.all_eq_true]
  intro v hv
  obtain ⟨n, _, rfl⟩ := List.mem_map.mp hv
  rfl
theorem inV_ints (i : Int) : ∀ ns : List Int, inV (.int i) (ns.map V.int) = decide (i ∈ ns)
  | [] => by simp [inV]
  | n :: ns => by
    have h := inV_ints i ns
    unfold inV at h ⊢
    rw [List.map_cons, List.any_cons, h]
    show (n == i || decide (i ∈ ns)) = _
    by_cases c : n = i
    · subst c; simp
    · have : (n == i) = false := by simpa using c
      rw [this, Bool.false_or]
      simp only [List.mem_cons]
      congr 1
      simp only [eq_comm (a := i), c, false_or]
theorem inV_strs (i : Str) : ∀ ns : List Str, inV (.str i) (ns.map V.str) = decide (i ∈ ns)
  | [] => by simp [inV]
  | n :: ns => by
    have h := inV_strs i ns
    unfold inV at h ⊢
    rw [List.map_cons, List.any_cons, h]
    show (n == i || decide (i ∈ ns)) = _
    by_cases c : n = i
    · subst c; simp
    · have : (n == i) = false := by simpa using c
      rw [this, Bool.false_or]
      simp only [List.mem_cons]
      congr 1
      simp only [eq_comm (a := i), c, false_or]
theorem g_inI {ns : List Int} (h : SqL K H p (ns.map V.int)) (q : Q (.bl (decide (i ∈ ns))) H) : rIn K false (.int i) (.ref p) H Q :=
  ⟨p, _, rfl, .inl h, rfl, flat_ints ns, by rw [inV_ints]; exact q⟩
theorem g_notInI {ns : List Int} (h : SqL K H p (ns.map V.int)) (q : Q (.bl (!decide (i ∈ ns))) H) : rIn K true (.int i) (.ref p) H Q :=
  ⟨p, _, rfl, .inl h, rfl, flat_ints ns, by rw [inV_ints]; exact q⟩
theorem g_inIT {ns : List Int} (h : SqT K H p (ns.map V.int)) (q : Q (.bl (decide (i ∈ ns))) H) : rIn K false (.int i) (.ref p) H Q :=
  ⟨p, _, rfl, .inr h, rfl, flat_ints ns, by rw [inV_ints]; exact q⟩
theorem g_notInIT {ns : List Int} (h : SqT K H p (ns.map V.int)) (q : Q (.bl (!decide (i ∈ ns))) H) : rIn K true (.int i) (.ref p) H Q :=
  ⟨p, _, rfl, .inr h, rfl, flat_ints ns, by rw [inV_ints]; exact q⟩
theorem g_inS {s : Str} {ns : List Str} (h : SqL K H p (ns.map V.str)) (q : Q (.bl (decide (s ∈ ns))) H) : rIn K false (.str s) (.ref p) H Q :=
  ⟨p, _, rfl, .inl h, rfl, flat_strs ns, by rw [inV_strs]; exact q⟩
theorem g_notInS {s : Str} {ns : List Str} (h : SqL K H p (ns.map V.str)) (q : Q (.bl (!decide (s ∈ ns))) H) : rIn K true (.str s) (.ref p) H Q :=
  ⟨p, _, rfl, .inl h, rfl, flat_strs ns, by rw [inV_strs]; exact q⟩
/-- sorted lists of whole numbers -/
theorem sorted_of {ns ns' : List Int} (pm : ns'.Perm ns) (le : ns'.Pairwise (· ≤ ·)) (nd : ns.Nodup) : ns'.Pairwise (· < ·) := by
  have nd' : ns'.Nodup := pm.nodup_iff.mpr nd
  exact (List.pairwise_and_iff.mpr ⟨le, nd'⟩).imp fun {a b} h => by
    have h1 := h.1
    have h2 : a ≠ b := h.2
    omega
theorem sorted_eq : ∀ {xs ys : List Int}, xs.Pairwise (· < ·) → ys.Pairwise (· < ·) → (∀ k, k ∈ xs ↔ k ∈ ys) → xs = ys
  | [], [], _, _, _ => rfl
  | [], y :: ys, _, _, h => by have := (h y).mpr (by simp); cases this
  | x :: xs, [], _, _, h => by have := (h x).mp (by simp); cases this
  | x :: xs, y :: ys, hx, hy, h => by
    have hx' := List.pairwise_cons.mp hx
    have hy' := List.pairwise_cons.mp hy
    have e : x = y := by
      have h1 := (h x).mp (by simp)
      have h2 := (h y).mpr (by simp)
      rcases List.mem_cons.mp h1 with e | h1
      · exact e
      · rcases List.mem_cons.mp h2 with e | h2
        · exact e.symm
        · have a1 := hx'.1 y h2
          have a2 := hy'.1 x h1
          omega
    subst e
    rw [sorted_eq hx'.2 hy'.2 fun k => ?_]
    have hk := h k
    simp only [List.mem_cons] at hk
    constructor
    · intro m
      rcases hk.mp (.inr m) with e | m'
      · subst e
        have := hx'.1 k m
        omega
      · exact m'
    · intro m
      rcases hk.mpr (.inr m) with e | m'
      · subst e
        have := hy'.1 k m
        omega
      · exact m'
theorem nodup_len : ∀ {xs ys : List Int}, xs.Nodup → (∀ k ∈ xs, k ∈ ys) → xs.length ≤ ys.length
  | [], _, _, _ => Nat.zero_le _
  | x :: xs, ys, nd, h => by
    have nd' := List.nodup_cons.mp nd
    have hx : x ∈ ys := h x (by simp)
    have := nodup_len (xs := xs) (ys := ys.erase x) nd'.2 fun k hk => (List.mem_erase_of_ne (show k ≠ x from fun e => by subst e; exact nd'.1 hk)).mpr (h k (by simp [hk]))
    rw [List.length_erase_of_mem hx] at this
    have := List.length_pos_of_mem hx
    rw [List.length_cons]
    omega
theorem sorted_nodup {xs : List Int} (h : xs.Pairwise (· < ·)) : xs.Nodup := h.imp fun {a b} (l : a < b) (e : a = b) => by omega
theorem g_sortedI {ns : List Int} (h : SqL K H a (ns.map V.int)) (q : ∀ (ns' : List Int) (p : Addr), ns'.Perm ns → ns'.Pairwise (· ≤ ·) → H p = none → Q (.ref p) (upd H p (.lst (ns'.map V.int)))) : rSortedI K [.ref a] H Q := ⟨a, ns, rfl, h, q⟩
theorem g_addSt {s t : Str} (h : s.length + t.length ≤ 1000000) (q : Q (.str (s ++ t)) H) : rAddSt (.str s) (.str t) H Q := ⟨s, t, rfl, rfl, Nat.le_trans h (by decide), q⟩
/-- an item that has what all have -/
theorem g_ixP (P : V → Prop) (h : SqL K H p xs) (al : ∀ v ∈ xs, P v) (h0 : 0 ≤ i) (h1 : i < (xs.length : Int)) (q : ∀ v, P v → Q v H) : rIxL K (.ref p) (.int i) H Q := by
  obtain ⟨n, rfl⟩ : ∃ n : Nat, i = n := ⟨i.toNat, by omega⟩
  have hn : n < xs.length := by omega
  exact ⟨p, xs, _, xs[n], rfl, rfl, h, atI_nat (List.getElem?_eq_getElem hn), q _ (al _ (List.getElem_mem hn))⟩
/-! ### caught errors -/
variable {σ : St} {D : Ends} {cls c : Value} {n : Nat} {ts : Addr → Value → Option Addr → TS} {W : WX} {dd : Option Addr}
theorem g_try {tb : WX → TS} (q : tb (wAs K c n ts W D) D σ H) : tTryAs K c n ts W tb D σ H := q
theorem g_caught (e : PySem.W.exmOne K cls c = some true) (q : ∀ a, H a = none → ts a cls dd { nx := fun σ' H' => D.nx (σ'.set n none) H', rt := D.rt, bk := fun σ' H' => D.bk (σ'.set n none) H', ct := fun σ' H' => D.ct (σ'.set n none) H' } (σ.set n (some (.ref a))) H) : wAs K c n ts W D cls dd σ H :=
  ⟨true, e, fun _ a ha => q a ha, fun z => by cases z⟩
theorem g_isX {C : Addr} {D : Addr} {r : Bool} (hE : ExcC K D) (hk : PySem.W.kitOne K (.ref D) (.ref C) = some r) (q : Q (.bl r) H) : rIsX K a (.ref D) none [.ref a, .ref C] H Q :=
  ⟨D, rfl, rfl, hE, .ref C, .ref C, r, rfl, fun u r => by cases r; rfl, hk, q⟩
end
/-! Own work: texts: rules (repeat, replace by constants), loops over texts, comprehensions that touch no heap. -/
open PySem PySem.Spec L2
section
variable {X : Cx} {ta tb to : TE} {a b o : Expr} {pos apos c0 c1 : Pos}
/-! ### text times a number -/
def repS (x : Str) (n : Int) : Str := ⟨(List.replicate n.toNat x.cps.toList).flatten.toArray⟩
theorem foldl_cps (x : Array Nat) : ∀ (n : Nat) (acc : Array Nat), (List.replicate n x).foldl (· ++ ·) acc = (acc.toList ++ (List.replicate n x.toList).flatten).toArray
  | 0, acc => by simp
  | n + 1, acc => by
    rw [List.replicate_succ, List.foldl_cons, foldl_cps x n (acc ++ x), List.replicate_succ, List.flatten_cons]
    simp
def rRepS : R2 := fun x y H Q => ∃ z k, x = .str z ∧ y = .int k ∧ 0 ≤ k ∧ k ≤ 1000000 ∧ z.length * k.toNat ≤ 1000000 ∧ Q (.str (repS z k)) H
theorem x_repS : OpR X (binaryOp .Mult) rRepS := by
  intro pins s σ H x y v u Q I rx ry h
  obtain ⟨z, k, rfl, rfl, h0, h1, h2, q⟩ := h
  obtain ⟨t, rfl⟩ := rx
  obtain ⟨t', rfl⟩ := ry
  have hz : (1000000 : Nat) ≤ sizeLine := by decide
  have tl : Builtin.Str.tooLong (z.length * k.toNat) = false := by
    unfold Builtin.Str.tooLong
    exact decide_eq_false (by omega)
  have fin : ∀ (v : Value) (n : Nat), RelV (V.str (repS z k)) v → EP X pins σ Q v { s with toks := n } := fun v n r => ⟨.str (repS z k), H, I.tok n, r, q⟩
  refine P.mul_str (by rw [decide_eq_false (by omega), decide_eq_false (by omega)]; rfl) (fun hk hn => ?_) (fun _ _ => tl) ?_
  · simp only [Bool.or_eq_false_iff] at hn
    have hk1 : 1 ≤ k := by omega
    have hl : (z.length : Int) ≤ 1000000 := by
      have : z.length * 1 ≤ z.length * k.toNat := Nat.mul_le_mul_left _ (by omega)
      omega
    have : (1000000 : Int) ≤ (2 ^ 63 - 1) / k := by
      refine (Int.le_ediv_iff_mul_le (by omega)).mpr ?_
      omega
    omega
  · split
    · rename_i hk
      have : k = 0 := by omega
      subst this
      exact ⟨by decide, fin _ _ ⟨s.toks, rfl⟩⟩
    · split
      · rename_i hk hn
        have e : repS z k = z := by
          unfold repS
          simp only [Bool.or_eq_true, beq_iff_eq] at hn
          rcases hn with rfl | hn
          · cases z with | mk cps => simp
          · have hz : z.cps = #[] := Array.eq_empty_of_size_eq_zero hn
            cases z with
            | mk cps =>
              simp only at hz
              subst hz
              simp
        refine fin _ _ ⟨t, ?_⟩
        rw [e]
      · rename_i hk hn
        have e : (⟨(List.replicate k.toNat z.cps).foldl (· ++ ·) #[]⟩ : Str) = repS z k := by
          unfold repS
          rw [foldl_cps]
          simp
        refine ⟨?_, fin _ _ ⟨_, by rw [e]⟩⟩
        exact fits_reps tl
/-! ### a token is out: text.replace(c, c') behind a written text -/
/-- as PE, and behind it a token is out -/
def PEk (X : Cx) (e : Expr) (t : TE) : Prop :=
  ∀ (pins : List (Addr × Obj)) (s : Shared) (σ : St) (H : Hp) (Q : VK), Inv X pins σ H s → t σ H Q → wpAny (model X.prog X.w) X.A (eval e X.env) (fun v s' => 1 ≤ s'.toks ∧ EP X pins σ Q v s') X.xe s
theorem pek_str {x : Str} {j : Nat} : PEk X (.Constant (.str x) j pos) (tC (.str x)) := fun _ s _ H _ I h => Calls.Constant_str ⟨Nat.le_add_left _ _, .str x, H, I.tok _, ⟨_, rfl⟩, h⟩
theorem pek_opL {op : Operator} {r : R2} (ho : OpR X (binaryOp op) r) (ha : PEk X a ta) (hb : PE X b tb) : PEk X (.BinOp a op b pos) (tOp r ta tb) := by
  intro pins s σ H Q I h
  refine wpAny_BinOp (wpAny_mono (ha pins s σ H _ I h) ?_ fun _ _ z => z)
  rintro v s1 ⟨h1, x, H1, I1, r1, q1⟩
  refine wpAny_mono (PySem.wpAny_toks_of h1 (hb.run pins s1 σ H1 _ I1 q1)) ?_ fun _ _ z => z.2
  rintro u s2 ⟨h2, y, H2, I2, r2, q2⟩
  exact wpAny_mono (PySem.wpAny_toks_of h2 (ho pins s2 σ H2 x y v u Q I2 r1 r2 q2)) (fun _ _ z => z) fun _ _ z => z.2
theorem pek_opR {op : Operator} {r : R2} (ho : OpR X (binaryOp op) r) (ha : PE X a ta) (hb : PEk X b tb) : PEk X (.BinOp a op b pos) (tOp r ta tb) := by
  intro pins s σ H Q I h
  refine wpAny_BinOp (thn (ha.run pins s σ H _ I h) ?_)
  rintro v s1 ⟨x, H1, I1, r1, q1⟩
  refine thn (hb pins s1 σ H1 _ I1 q1) ?_
  rintro u s2 ⟨h2, y, H2, I2, r2, q2⟩
  exact wpAny_mono (PySem.wpAny_toks_of h2 (ho pins s2 σ H2 x y v u Q I2 r1 r2 q2)) (fun _ _ z => z) fun _ _ z => z.2
theorem pe_opT {op : Operator} {r : R2} (ho : OpR X (binaryOp op) r) (ha : PEk X a ta) (hb : PET X b tb) : PE X (.BinOp a op b pos) (tOp r ta tb) := by
  refine ⟨fun pins s σ H Q I h => ?_⟩
  refine wpAny_BinOp (thn (ha pins s σ H _ I h) ?_)
  rintro v s1 ⟨h1, x, H1, I1, r1, q1⟩
  refine thn (hb pins s1 σ H1 _ h1 I1 q1) ?_
  rintro u s2 ⟨y, H2, I2, r2, q2⟩
  exact ho pins s2 σ H2 x y v u Q I2 r1 r2 q2
def tRepl (to : TE) (y z : Str) : TE := fun σ H Q => to σ H fun x H1 => ∃ a, x = .str a ∧ a.length + (a.length + 1) * z.length ≤ 16777216 ∧ Q (.str (Txt.replace a y z)) H1
theorem pet_repl {y z : Str} {j0 j1 : Nat} (ho : PE X o to) (hyz : (y == z) = false := by decide +kernel)
    (hst : starEach [.Constant (.str y) j0 c0, .Constant (.str z) j1 c1] X.env = [(false, eval (.Constant (.str y) j0 c0) X.env), (false, eval (.Constant (.str z) j1 c1) X.env)] := by rfl)
    (hbase : attributeBase o "replace" X.env (eval o X.env) = eval o X.env := by rfl) (hline : (apos.endLine == pos.line) = true := by rfl) :
    PET X (.Call (.Attribute o "replace" apos) [.Constant (.str y) j0 c0, .Constant (.str z) j1 c1] [] pos) (tRepl to y z) := by
  intro pins s σ H Q h0 I h
  refine PySem.Call_method2 hbase hst hline (wpAny_mono (PySem.wpAny_toks_of h0 (ho.run pins s σ H _ I h)) ?_ fun _ _ z => z.2)
  rintro v s1 ⟨h1, x, H1, I1, r1, a, rfl, hb, q⟩
  obtain ⟨tx, rfl⟩ := r1
  refine ⟨"str", _, F.plainAttrs_str, F.slot_str_replace, F.type_str_replace, typeIs_str _ _ _, (fun _ e => nomatch e), Calls.callWith_builtin rfl (Calls.evalArgs_plain (Calls.spliced_cons (Calls.Constant_str (Calls.spliced_cons (Calls.Constant_str (Calls.spliced_nil ?_))))))⟩
  exact PySem.SC.replace (show s1.toks ≠ 0 by omega) (show s1.toks + 1 ≠ 0 by omega) (show s1.toks ≠ s1.toks + 1 by omega) hyz hb fun t' k => ⟨.str (Txt.replace a y z), H1, I1.tok k, ⟨t', rfl⟩, q⟩
end
/-! ### iterators that stand still -/
structure ItOf (J : It) (xs : List V) (ok : Hp → Prop) : Prop where
  go : ∀ i H, ok H → i < xs.length → J.go i H
  yl : ∀ i H x H', ok H → J.yld i H x H' → H' = H ∧ xs[i]? = some x
  st : ∀ i H, ok H → xs.length ≤ i → J.stop i H
def chars (x : Str) : List V := x.cps.toList.map fun c => V.str ⟨#[c]⟩
theorem chars_len (x : Str) : (chars x).length = x.length := by simp [chars, Str.length]
theorem it_str (x : Str) : ItOf (Its x) (chars x) fun _ => True where
  go := fun i H _ h => by rw [chars_len] at h; exact h
  yl := fun i H v H' _ h => by
    obtain ⟨e, c, hc, rfl⟩ := h
    refine ⟨e, ?_⟩
    unfold chars
    rw [List.getElem?_map, Array.getElem?_toList, hc]
    rfl
  st := fun i H _ h => by rw [chars_len] at h; exact h
theorem it_list {K : Frag} {a : Addr} {xs : List V} : ItOf (Itl K a) xs fun H => SqL K H a xs where
  go := fun i H h hi => ⟨xs, xs[i], h, by simp [hi]⟩
  yl := fun i H v H' h y => ⟨y.1, y.2 xs h⟩
  st := fun i H h hi => ⟨xs, h, hi⟩
theorem it_tup {K : Frag} {a : Addr} {xs : List V} : ItOf (Itt K a) xs fun H => SqT K H a xs where
  go := fun i H h hi => ⟨xs, xs[i], h, by simp [hi]⟩
  yl := fun i H v H' h y => ⟨y.1, y.2 xs h⟩
  st := fun i H h hi => ⟨xs, h, hi⟩
section
variable {K : Frag} {σ : St} {H H' : Hp} {Q : VK} {ta tb tc te tv : TE} {tt : TT} {ts us : TS} {g : TG} {tl : TA} {x y z v : V} {i j : Int} {p q a b C : Addr} {xs ys : List V} {wi : TI} {ns : List Nat} {J : It} {ok : Hp → Prop}
/-- a for loop over what stands still -/
theorem for_run (IT : ItOf J xs ok) {n : St → Hp → Prop} {r : VK} (Pv : Nat → St → Hp → Prop) (h0 : Pv 0 σ H) (hl : ∀ i σ H, i ≤ xs.length → Pv i σ H → ok H)
    (hs : ∀ i x σ H, xs[i]? = some x → Pv i σ H → g x σ H fun σ2 H2 => ts ⟨Pv (i + 1), r, n, Pv (i + 1)⟩ σ2 H2) (hd : ∀ σ H, Pv xs.length σ H → n σ H) :
    ∃ W : Nat → Nat → St → Hp → Prop, (∃ m, W 0 m σ H) ∧ ∀ i m σ H, W i m σ H →
      (J.stop i H ∧ n σ H) ∨ (J.go i H ∧ ∃ N : St → Hp → Prop, (∀ σ' H', N σ' H' → ∃ m', m' < m ∧ W (i + 1) m' σ' H') ∧ ∀ x H', J.yld i H x H' → g x σ H' fun σ2 H2 => ts ⟨N, r, n, N⟩ σ2 H2) := by
  refine ⟨fun i m σ H => m = xs.length - i ∧ i ≤ xs.length ∧ Pv i σ H, ⟨xs.length, by simp, Nat.zero_le _, h0⟩, ?_⟩
  rintro i m σ H ⟨rfl, hi, p⟩
  have q := hl i σ H hi p
  by_cases hlt : i < xs.length
  · refine .inr ⟨IT.go i H q hlt, Pv (i + 1), fun σ' H' p' => ⟨xs.length - (i + 1), by omega, rfl, hlt, p'⟩, fun x H' y => ?_⟩
    obtain ⟨e, y'⟩ := IT.yl i H x H' q y
    subst e
    exact hs i x σ _ y' p
  · have e : i = xs.length := by omega
    subst e
    exact .inl ⟨IT.st _ _ q (Nat.le_refl _), hd σ H p⟩
/-- for c in text -/
theorem l_str {s : Str} {n : St → Hp → Prop} {r : VK} (Pv : Nat → St → Hp → Prop) (h0 : Pv 0 σ H)
    (hs : ∀ i c σ H, s.cps.toList[i]? = some c → Pv i σ H → g (.str ⟨#[c]⟩) σ H fun σ2 H2 => ts ⟨Pv (i + 1), r, n, Pv (i + 1)⟩ σ2 H2) (hd : ∀ σ H, Pv s.cps.toList.length σ H → n σ H) :
    ∃ s', V.str s = .str s' ∧ ∃ W : Nat → Nat → St → Hp → Prop, (∃ m, W 0 m σ H) ∧ ∀ i m σ H, W i m σ H →
      ((Its s').stop i H ∧ n σ H) ∨ ((Its s').go i H ∧ ∃ N : St → Hp → Prop, (∀ σ' H', N σ' H' → ∃ m', m' < m ∧ W (i + 1) m' σ' H') ∧ ∀ x H', (Its s').yld i H x H' → g x σ H' fun σ2 H2 => ts ⟨N, r, n, N⟩ σ2 H2) := by
  refine ⟨s, rfl, for_run (it_str s) Pv h0 (fun _ _ _ _ _ => trivial) (fun i x σ H hx hp => ?_) (fun σ H hp => hd σ H (by rw [chars, List.length_map] at hp; exact hp))⟩
  unfold chars at hx
  rw [List.getElem?_map] at hx
  cases e : s.cps.toList[i]? with
  | none => rw [e] at hx; cases hx
  | some c => rw [e] at hx; cases hx; exact hs i c σ H e hp
/-- [e for x in xs if t], nothing of the heap touched: f x the item, none where the test fails -/
theorem lc_run {R : Addr → Hp → Prop} {α : Type} {emb : α → V} {ws : List α} (IT : ItOf J (ws.map emb) ok) (f : α → Option V) (hz : ws.length ≤ 1000000) (hok : ∀ D acc, H D = none → ok (upd H D (.lst acc)))
    (hs : ∀ (D : Addr) (x : α) (acc : List V) (Nx : Hp → Prop), H D = none → x ∈ ws → acc.length < 1000000 → (f x = none → Nx (upd H D (.lst acc))) → (∀ y, f x = some y → Nx (upd H D (.lst (acc ++ [y])))) →
      g (emb x) (wipe σ ns) (upd H D (.lst acc)) fun σ2 H2 => wipe σ2 ns = wipe σ ns ∧ tt σ2 H2 fun b H3 => if b = true then te σ2 H3 fun y H4 => ∃ acc, H4 D = some (.lst acc) ∧ acc.length < sizeLine ∧ Nx (upd H4 D (.lst (acc ++ [y]))) else Nx H3)
    (hd : ∀ D, H D = none → R D (upd H D (.lst (ws.filterMap f)))) :
    ∀ D, H D = none → ∃ W : Nat → Nat → Hp → Prop, (∃ m, W 0 m (upd H D (.lst []))) ∧ ∀ i m H, W i m H →
      (J.stop i H ∧ R D H) ∨ (J.go i H ∧ ∃ Nx : Hp → Prop, (∀ H', Nx H' → ∃ m', m' < m ∧ W (i + 1) m' H') ∧ ∀ x H', J.yld i H x H' → g x (wipe σ ns) H' fun σ2 H2 => wipe σ2 ns = wipe σ ns ∧ tt σ2 H2 fun b H3 =>
        if b = true then te σ2 H3 fun y H4 => ∃ acc, H4 D = some (.lst acc) ∧ acc.length < sizeLine ∧ Nx (upd H4 D (.lst (acc ++ [y]))) else Nx H3) := by
  intro D hD
  refine ⟨fun i m H' => m = ws.length - i ∧ i ≤ ws.length ∧ H' = upd H D (.lst ((ws.take i).filterMap f)), ⟨ws.length, by simp, Nat.zero_le _, by simp⟩, ?_⟩
  rintro i m H' ⟨rfl, hi, rfl⟩
  have q := hok D ((ws.take i).filterMap f) hD
  by_cases hlt : i < ws.length
  · refine .inr ⟨IT.go i _ q (by rw [List.length_map]; exact hlt), fun H' => H' = upd H D (.lst ((ws.take (i + 1)).filterMap f)), fun H' p' => ⟨ws.length - (i + 1), by omega, rfl, hlt, p'⟩, fun x H' y => ?_⟩
    obtain ⟨e, y'⟩ := IT.yl i _ x H' q y
    subst e
    have y2 : ws[i]? = some ws[i] := List.getElem?_eq_getElem hlt
    rw [List.getElem?_map, y2] at y'
    obtain rfl := Option.some.inj y'
    have tk : (ws.take (i + 1)).filterMap f = (ws.take i).filterMap f ++ (f ws[i]).toList := by
      rw [List.take_succ, y2, Option.toList_some, List.filterMap_append]
      cases ef : f ws[i] <;> simp [List.filterMap, ef]
    have hl : ((ws.take i).filterMap f).length < 1000000 := by
      have h1 := List.length_filterMap_le f (ws.take i)
      rw [List.length_take] at h1
      omega
    refine hs D ws[i] _ _ hD (List.getElem_mem hlt) hl (fun e => ?_) fun y e => ?_
    · rw [tk, e]; simp
    · rw [tk, e]; rfl
  · have e : i = ws.length := by omega
    subst e
    refine .inl ⟨IT.st _ _ q (by rw [List.length_map]; exact Nat.le_refl _), ?_⟩
    rw [List.take_length]
    exact hd D hD
theorem lc_fin {acc : List V} {D : Addr} {Nx : Hp → Prop} {y : V} (l : acc.length < 1000000) (q : Nx (upd H D (.lst (acc ++ [y])))) : ∃ acc', (upd H D (.lst acc)) D = some (.lst acc') ∧ acc'.length < sizeLine ∧ Nx (upd (upd H D (.lst acc)) D (.lst (acc' ++ [y]))) :=
  ⟨acc, upd_same, Nat.lt_of_lt_of_le l (by decide), by rw [upd_upd]; exact q⟩
/-- over a text -/
theorem l_lcS {s : Str} {R : Addr → Hp → Prop} (f : Nat → Option V) (hz : s.length ≤ 1000000)
    (hs : ∀ (D : Addr) (c : Nat) (acc : List V) (Nx : Hp → Prop), H D = none → c ∈ s.cps.toList → acc.length < 1000000 → (f c = none → Nx (upd H D (.lst acc))) → (∀ y, f c = some y → Nx (upd H D (.lst (acc ++ [y])))) →
      g (.str ⟨#[c]⟩) (wipe σ ns) (upd H D (.lst acc)) fun σ2 H2 => wipe σ2 ns = wipe σ ns ∧ tt σ2 H2 fun b H3 => if b = true then te σ2 H3 fun y H4 => ∃ acc, H4 D = some (.lst acc) ∧ acc.length < sizeLine ∧ Nx (upd H4 D (.lst (acc ++ [y]))) else Nx H3)
    (hd : ∀ D, H D = none → R D (upd H D (.lst (s.cps.toList.filterMap f)))) :
    ∃ s', V.str s = .str s' ∧ ∀ D, H D = none → ∃ W : Nat → Nat → Hp → Prop, (∃ m, W 0 m (upd H D (.lst []))) ∧ ∀ i m H, W i m H →
      ((Its s').stop i H ∧ R D H) ∨ ((Its s').go i H ∧ ∃ Nx : Hp → Prop, (∀ H', Nx H' → ∃ m', m' < m ∧ W (i + 1) m' H') ∧ ∀ x H', (Its s').yld i H x H' → g x (wipe σ ns) H' fun σ2 H2 => wipe σ2 ns = wipe σ ns ∧ tt σ2 H2 fun b H3 =>
        if b = true then te σ2 H3 fun y H4 => ∃ acc, H4 D = some (.lst acc) ∧ acc.length < sizeLine ∧ Nx (upd H4 D (.lst (acc ++ [y]))) else Nx H3) := by
  exact ⟨s, rfl, lc_run (emb := fun c => V.str ⟨#[c]⟩) (ws := s.cps.toList) (it_str s) f (by rw [← TL.len_tl]; exact hz) (fun _ _ _ => trivial) hs hd⟩
/-- over a list -/
theorem l_lcL {a : Addr} {R : Addr → Hp → Prop} {α : Type} {emb : α → V} {ws : List α} (h : SqL K H a (ws.map emb)) (f : α → Option V) (hz : ws.length ≤ 1000000)
    (hs : ∀ (D : Addr) (x : α) (acc : List V) (Nx : Hp → Prop), H D = none → x ∈ ws → acc.length < 1000000 → (f x = none → Nx (upd H D (.lst acc))) → (∀ y, f x = some y → Nx (upd H D (.lst (acc ++ [y])))) →
      g (emb x) (wipe σ ns) (upd H D (.lst acc)) fun σ2 H2 => wipe σ2 ns = wipe σ ns ∧ tt σ2 H2 fun b H3 => if b = true then te σ2 H3 fun y H4 => ∃ acc, H4 D = some (.lst acc) ∧ acc.length < sizeLine ∧ Nx (upd H4 D (.lst (acc ++ [y]))) else Nx H3)
    (hd : ∀ D, H D = none → R D (upd H D (.lst (ws.filterMap f)))) :
    ∃ a', V.ref a = .ref a' ∧ (∃ xs, SqL K H a' xs) ∧ ∀ D, H D = none → ∃ W : Nat → Nat → Hp → Prop, (∃ m, W 0 m (upd H D (.lst []))) ∧ ∀ i m H, W i m H →
      ((Itl K a').stop i H ∧ R D H) ∨ ((Itl K a').go i H ∧ ∃ Nx : Hp → Prop, (∀ H', Nx H' → ∃ m', m' < m ∧ W (i + 1) m' H') ∧ ∀ x H', (Itl K a').yld i H x H' → g x (wipe σ ns) H' fun σ2 H2 => wipe σ2 ns = wipe σ ns ∧ tt σ2 H2 fun b H3 =>
        if b = true then te σ2 H3 fun y H4 => ∃ acc, H4 D = some (.lst acc) ∧ acc.length < sizeLine ∧ Nx (upd H4 D (.lst (acc ++ [y]))) else Nx H3) :=
  ⟨a, rfl, ⟨_, h⟩, lc_run it_list f hz (fun D acc hD => seqL_new hD h) hs hd⟩
/-! ### texts, one step each -/
theorem g_ord {c : Nat} (q : Q (.int (c : Nat)) H) : rOrd [.str ⟨#[c]⟩] H Q := ⟨⟨#[c]⟩, rfl, rfl, q⟩
theorem g_repS {z : Str} (h0 : 0 ≤ i) (h1 : i ≤ 1000000) (h2 : z.length * i.toNat ≤ 1000000) (q : Q (.str (repS z i)) H) : rRepS (.str z) (.int i) H Q := ⟨z, i, rfl, rfl, h0, h1, h2, q⟩
theorem hd_repS (q : rRepS x y H Q) : rRepS x y H Q := q
theorem hd_addSt (q : rAddSt x y H Q) : rAddSt x y H Q := q
theorem g_slS {z : Str} {lo hi : Option Int} (h : z.length ≤ 1000000) (q : Q (.str (cutS z lo hi)) H) : rSlS (.str z) lo hi H Q := ⟨z, rfl, Nat.le_trans h (by decide), q⟩
theorem g_iS {R : It → Hp → Prop} (q : ta σ H fun v H1 => ∃ x, v = .str x ∧ R (Its x) H1) : iStr ta σ H R := q
theorem g_slT {r : V → Option Int → Option Int → Hp → VK → Prop} {lo hi : TO} (q : ta σ H fun x H1 => lo σ H1 fun l H2 => hi σ H2 fun u H3 => r x l u H3 Q) : L2.tSl r ta lo hi σ H Q := q
theorem g_npart {Q : Option Int → Hp → Prop} (q : Q none H) : tNoPart σ H Q := q
theorem g_part {Q : Option Int → Hp → Prop} (q : ta σ H fun x H1 => ∃ i, x = .int i ∧ Q (some i) H1) : tPart ta σ H Q := q
theorem g_int1 {R : Int → Prop} (q : R i) : ∃ i', V.int i = .int i' ∧ R i' := ⟨i, rfl, q⟩
theorem g_str1 {z : Str} {R : Prop} (q : R) : (∃ a, V.str z = .str a) ∧ R := ⟨⟨z, rfl⟩, q⟩
theorem g_ixS {z : Str} {c : Nat} (h : z.length ≤ 1000000) (e : atI z.cps.toList i = some c) (q : Q (.str ⟨#[c]⟩) H) : rIxS (.str z) (.int i) H Q := ⟨z, i, c, rfl, rfl, Nat.le_trans h (by decide), e, q⟩
theorem g_isB {k l : Bool} (q : Q (.bl (decide (k = l))) H) : rIsB (.bl k) (.bl l) H Q := ⟨k, l, rfl, rfl, q⟩
theorem g_repl {y z : Str} (q : ta σ H fun x H1 => ∃ a, x = .str a ∧ a.length + (a.length + 1) * z.length ≤ 16777216 ∧ Q (.str (Txt.replace a y z)) H1) : tRepl ta y z σ H Q := q
theorem g_all {bs : List Bool} (h : SqL K H p (bs.map V.bl)) (q : Q (.bl (bs.all id)) H) : rAll K [.ref p] H Q := ⟨p, bs, rfl, h, q⟩
theorem g_any {bs : List Bool} (h : SqL K H p (bs.map V.bl)) (q : Q (.bl (bs.any id)) H) : rAny K [.ref p] H Q := ⟨p, bs, rfl, h, q⟩
theorem g_yes1 {Q : Bool → Hp → Prop} (q : Q true H) : tYes σ H Q := q
theorem g_m1 {r : V → List V → Hp → VK → Prop} (q : ta σ H fun x H1 => (∃ a, x = .str a) ∧ tb σ H1 fun y H2 => r x [y] H2 Q) : tM1 r ta tb σ H Q := q
theorem g_chain {r r' : R2} (q : ta σ H fun x H1 => tb σ H1 fun y H2 => r x y H2 fun v H3 => ∃ k, v = .bl k ∧ if k = true then tc σ H3 fun z H4 => r' y z H4 Q else Q (.bl false) H3) : tChain r r' ta tb tc σ H Q := q
end
/-! Own work: what the proofs ask of the state behind the top, as one list of Bools and one list of defs (each at an address that is reckoned from K), read by a Hook. -/
open PySem PySem.Spec L2
/-- where a def stands: a module's name; a method; the getter of a property -/
inductive Pl where
  | fn (x : Str) | me (C m : Str) | pr (C m : Str)
def prA (K : Frag) (C m : Str) : Addr := match PySem.W.recIn K (He.ma K (He.ga K C) m) "property" with
  | some (.ref g :: _) => g
  | _ => 0
def Pl.ad (K : Frag) : Pl → Addr
  | .fn x => He.ga K x
  | .me C m => He.ma K (He.ga K C) m
  | .pr C m => prA K C m
structure Df where
  pl : Pl
  name : Str
  qual : Str
  st : Stmt
  dfl : List He.Dv := []
  kwd : List (Str × He.Dv) := []
def wat (K : Frag) (p : Pl) : He.FnW := match K.lookup (p.ad K) with
  | some ⟨_, _, .func d, _⟩ => some (d.name, d.qualname, d.params, d.body, d.scope, d.globals, d.closure, d.builtins)
  | _ => none
def Df.val (d : Df) : He.FnW := some (d.name, d.qual, defArgs d.st, .stmts (defBody d.st), defScope d.st, mainGlobals, [], builtinsNs)
def Df.dvs (K : Frag) (d : Df) : List V := d.dfl.map (He.Dv.v K)
def Df.kws (K : Frag) (d : Df) : List (Str × V) := d.kwd.map fun q => (q.1, q.2.v K)
def Df.ok (K : Frag) (d : Df) : Bool := PySem.W.keepIn K (.ref (d.pl.ad K)) && (match K.lookup (d.pl.ad K) with
  | some ⟨_, _, .func f, _⟩ => PySem.W.codeIn K f.code d.qual && (He.dflB K f.defaults (d.dvs K) && He.kwdB K f.kwdefaults (d.kws K))
  | _ => false)
abbrev FunS (K : Frag) (d : Df) (fd : FuncData) : Prop := FunD K d.name d.qual (defArgs d.st) (defBody d.st) (defScope d.st) (d.dvs K) (d.kws K) (d.pl.ad K) fd
theorem Df.funS {K : Frag} {d : Df} (e : wat K d.pl = d.val) (c : d.ok K = true) : ∃ fd, FunS K d fd := by
  obtain ⟨kp, c⟩ := He.ba c
  unfold wat at e
  split at e
  · rename_i oc od f osl q
    rw [q] at c
    obtain ⟨k1, c⟩ := He.ba c
    obtain ⟨k2, k3⟩ := He.ba c
    obtain ⟨a1, a2, a3, a4, a5, a6, a7, a8, a9, a10, a11, a12, a13, a14, a15⟩ := f
    simp only [Df.val, Option.some.injEq, Prod.mk.injEq] at e
    obtain ⟨h1, h2, h3, h4, h5, h6, h7, h8⟩ := e
    subst h1 h2 h3 h4 h5 h6 h7 h8
    exact ⟨_, ⟨oc, od, a8, a9, a10, a11, a12, a13, a14, osl, rfl, q, k1, He.dflB_ok k2, He.kwdB_ok k3⟩, kp⟩
  · cases e
/-! ### the Hook -/
abbrev Ck := Frag → List Bool
def obsS (ck : Ck) (fn : List Df) (K : Frag) : He.AlD := ((ck K).all (fun b => b) && fn.all fun d => d.ok K, fn.map fun d => wat K d.pl)
def valS (fn : List Df) : He.AlD := (true, fn.map Df.val)
def SaysS (ck : Ck) (fn : List Df) (K : Frag) : Prop := obsS ck fn K = valS fn
def obsSG (n : Nat) (ck : Ck) (fn : List Df) (g : Addr → Option Obj) : He.AlD := obsS ck fn (He.frG g (He.asD g n))
def hookS (n : Nat) (ck : Ck) (fn : List Df) : PySem.W.Hook where
  α := He.AlD
  obs := fun s => obsSG n ck fn s.heap.get?
  val := fun _ => valS fn
  says := fun _ h => ∃ K : Frag, K.In h ∧ SaysS ck fn K
  of := fun _ _ e => ⟨_, He.frG_in, e⟩
  keeps := fun _ _ _ ⟨K, hK, c⟩ k => ⟨K, PySem.W.Frag.In.keeps hK k, c⟩
theorem obsSG_eq {n : Nat} {ck : Ck} {fn : List Df} {g : Addr → Option Obj} {s : Shared} (h : ∀ a, g a = s.heap.get? a) : obsSG n ck fn g = (hookS n ck fn).obs s := by
  have e : g = s.heap.get? := funext h
  rw [e]
  rfl
/-- what is read off the head -/
structure Tx (ck : Ck) (fn : List Df) (K : Frag) (mg : Str → Option Value) : Prop where
  says : SaysS ck fn K
  at_ : ∃ h : Heap, K.In h ∧ h.Ns mainGlobals mg
section
variable {ck : Ck} {fn : List Df} {K : Frag} {mg : Str → Option Value}
theorem Tx.bit (T : Tx ck fn K mg) (i : Nat) {b : Bool} (h : (ck K)[i]? = some b := by rfl) : b = true := by
  have c := (He.ba (show ((ck K).all (fun b => b) && fn.all fun d => d.ok K) = true from congrArg (fun z : He.AlD => z.1) T.says)).1
  exact List.all_eq_true.mp c b (List.mem_of_getElem? h)
theorem Tx.df (T : Tx ck fn K mg) (i : Nat) {d : Df} (h : fn[i]? = some d := by rfl) : ∃ fd, FunS K d fd := by
  have c := (He.ba (show ((ck K).all (fun b => b) && fn.all fun d => d.ok K) = true from congrArg (fun z : He.AlD => z.1) T.says)).2
  have e : fn.map (fun d => wat K d.pl) = fn.map Df.val := congrArg (fun z : He.AlD => z.2) T.says
  have e2 : (fn.map fun d => wat K d.pl)[i]? = (fn.map Df.val)[i]? := by rw [e]
  rw [List.getElem?_map, List.getElem?_map, h] at e2
  exact Df.funS (Option.some.inj e2) (List.all_eq_true.mp c d (List.mem_of_getElem? h))
theorem Tx.free (T : Tx ck fn K mg) {x : Str} (c : (He.Fa.free x).ok K = true) : mg x = none := by
  obtain ⟨h, X, G⟩ := T.at_
  exact He.free_ok X G c
theorem Tx.glo (T : Tx ck fn K mg) {x : Str} (c : (He.Fa.glo x).ok K = true) : mg x = some (.ref (He.ga K x)) := by
  obtain ⟨h, X, G⟩ := T.at_
  exact He.glo_ok X G c
theorem Tx.int (T : Tx ck fn K mg) {x : Str} {i : Int} (c : (He.Fa.int x i).ok K = true) : ∃ t, mg x = some (.int i t) := by
  obtain ⟨h, X, G⟩ := T.at_
  exact He.int_ok X G c
theorem Tx.str (T : Tx ck fn K mg) {x z : Str} (c : (He.Fa.str x z).ok K = true) : ∃ t, mg x = some (.str z t) := by
  obtain ⟨h, X, G⟩ := T.at_
  exact He.str_ok X G c
end
/-! ### further facts -/
def propB (K : Frag) (C f : Str) : Bool := He.eqO (PySem.W.findIn K (.ref (He.ga K C)) f) (some (some (.ref (He.ma K (He.ga K C) f)))) &&
  (He.eqO (PySem.W.specialIn K (.ref (He.ma K (He.ga K C) f)) "__get__") (some (some (.builtin "property.__get__"))) &&
  (decide (PySem.W.takesIn K (.ref (He.ma K (He.ga K C) f)) = some true) && (match PySem.W.recIn K (He.ma K (He.ga K C) f) "property" with
  | some (.ref g :: _) => decide (g = prA K C f)
  | _ => false)))
theorem propB_ok {K : Frag} {C f : Str} (h : propB K C f = true) : PropOf K (He.ga K C) f (He.ma K (He.ga K C) f) (prA K C f) := by
  obtain ⟨h1, h⟩ := He.ba h
  obtain ⟨h2, h⟩ := He.ba h
  obtain ⟨h3, h4⟩ := He.ba h
  refine ⟨He.eqO_ok h1, He.eqO_ok h2, of_decide_eq_true h3, ?_⟩
  split at h4
  · rename_i g r q
    rw [← (show g = prA K C f from of_decide_eq_true h4)]
    exact ⟨r, q⟩
  · cases h4
def excB (K : Frag) (D : Str) : Bool := He.eqO (PySem.W.findIn K (.ref (He.ga K D)) "__getattribute__") (some (some (.builtin "BaseException.__getattribute__"))) &&
  (He.eqO (PySem.W.findIn K (.ref (He.ga K D)) "__getattr__") (some none) && (decide (PySem.W.subIn K (.ref (He.ga K D)) (.type "BaseException") = some true) && (PySem.W.hasDictIn K (He.ga K D) &&
  (He.eqO (PySem.W.findIn K (.ref (He.ga K D)) "__class__") (some (some (.builtin "object.__class__"))) && (He.eqO (PySem.W.specialIn K (.builtin "object.__class__") "__get__") (some (some (.builtin "getset_descriptor.__get__"))) &&
  (decide (PySem.W.takesIn K (.builtin "object.__class__") = some true) && decide (PySem.W.mroIn K (He.ga K D) (.type "object") = some true)))))))
theorem excB_ok {K : Frag} {D : Str} (h : excB K D = true) : ExcC K (He.ga K D) := by
  obtain ⟨h1, h⟩ := He.ba h
  obtain ⟨h2, h⟩ := He.ba h
  obtain ⟨h3, h⟩ := He.ba h
  obtain ⟨h4, h⟩ := He.ba h
  obtain ⟨h5, h⟩ := He.ba h
  obtain ⟨h6, h⟩ := He.ba h
  obtain ⟨h7, h8⟩ := He.ba h
  exact ⟨He.eqO_ok h1, He.eqO_ok h2, of_decide_eq_true h3, h4, He.eqO_ok h5, He.eqO_ok h6, of_decide_eq_true h7, of_decide_eq_true h8⟩
def kitB2 (K : Frag) (D C : Str) (b : Bool) : Bool := decide (PySem.W.kitOne K (.ref (He.ga K D)) (.ref (He.ga K C)) = some b)
theorem kitB2_ok {K : Frag} {D C : Str} {b : Bool} (h : kitB2 K D C b = true) : PySem.W.kitOne K (.ref (He.ga K D)) (.ref (He.ga K C)) = some b := of_decide_eq_true h
def kitTy (K : Frag) (D : Str) (C : String) (b : Bool) : Bool := decide (PySem.W.kitOne K (.ref (He.ga K D)) (.type C) = some b)
theorem kitTy_ok {K : Frag} {D : Str} {C : String} {b : Bool} (h : kitTy K D C b = true) : PySem.W.kitOne K (.ref (He.ga K D)) (.type C) = some b := of_decide_eq_true h
theorem tk_intro {X : Cx} {body : List Stmt} {t : TS} {E : XK} (tk : Takes X (WD E)) (h : Takes X (WD E) → PSs X body t) : PSs X body t := h tk
/-- a promise under which nothing is let out -/
theorem FnOk.e0 {P : Program} {w : World} {K : Frag} {mg : Str → Option Value} {base : Heap} {k : Nat} {f : Addr} {ps : List Str} {sp : Sp} {fd : FuncData} (F : FnOk P w K mg base (L2.CX P w) k f fd ps sp) : FnOk P w K mg base CX0 k f fd ps (fun vs H Q _ => sp vs H Q E0) :=
  ⟨fun vs H Q _ h => F.len vs H Q E0 h, fun A outer s H args us vs Q E hr he hb hv h => codeAny_mono (F.run A outer s H args us vs Q E0 hr he hb hv h) (by
    rintro (e | fl) s' q
    · obtain ⟨_, _, _, _, _, _, _, _, _, _, _, _, z⟩ := q
      exact z.elim
    · cases fl with
      | ret u => exact q
      | next => exact q
      | brk => exact q
      | cont => exact q)⟩
/-- what a def's callers take, from its own -/
theorem Gm.of {P : Program} {w : World} {K : Frag} {mg : Str → Option Value} {base : Heap} {k : Nat} {f : Addr} {ps : List Str} {sp : Sp} {fd : FuncData} (ok : FnOk P w K mg base (L2.CX P w) k f fd ps sp) (b : Binds K fd ps []) : Gm P w K mg base k f ps [] sp :=
  ⟨fd, [], ok, b, .nil⟩
theorem Gf.of {P : Program} {w : World} {K : Frag} {mg : Str → Option Value} {base : Heap} {k : Nat} {x : Str} {ps : List Str} {sp : Sp} {fd : FuncData} (ok : FnOk P w K mg base (L2.CX P w) k (He.ga K x) fd ps sp) (b : Binds K fd ps [])
    (hm : mg x = some (.ref (He.ga K x))) (hk : PySem.W.keepIn K (.ref (He.ga K x)) = true) : Gf P w K mg base k x ps [] sp := ⟨⟨fd, [], ok, b, .nil⟩, hm, hk⟩
local macro_rules | `(tactic| walk_at "nm") => `(tactic| first
  | exact List.not_mem_nil
  | exact nm1 (by walk_at "ne")
  | exact nm2 (by walk_at "ne") (by walk_at "ne")
  | exact nm3 (by walk_at "ne") (by walk_at "ne") (by walk_at "ne")
  | exact nm4 (by walk_at "ne") (by walk_at "ne") (by walk_at "ne") (by walk_at "ne"))
local macro_rules | `(tactic| walk_at "fr") => `(tactic| first
  | assumption
  | exact fr1 (by assumption)
  | exact fr2 (by assumption)
  | exact fr3 (by assumption)
  | exact fr4 (by assumption)
  | exact fr5 (by assumption)
  | exact fr6 (by assumption)
  | exact fr7 (by assumption)
  | exact fr8 (by assumption)
  | exact fr9 (by assumption)
  | exact fr10 (by assumption)
  | exact fr11 (by assumption)
  | exact fr12 (by assumption))
local macro_rules | `(tactic| walk_at "ne0") => `(tactic| first
  | assumption
  | exact ne_of_none (by assumption) (by assumption)
  | exact nu1 (by assumption)
  | exact nu2 (by assumption)
  | exact nu3 (by assumption)
  | exact nu4 (by assumption)
  | exact nu5 (by assumption)
  | exact nu6 (by assumption)
  | exact nu7 (by assumption)
  | exact nu8 (by assumption)
  | exact nu9 (by assumption)
  | exact nu10 (by assumption)
  | exact nu11 (by assumption)
  | exact nu12 (by assumption)
  | exact ne_fresh2 (by assumption) (by walk_at "fr"))
local macro_rules | `(tactic| walk_at "ne") => `(tactic| first
  | walk_at "ne0"
  | exact Ne.symm (by walk_at "ne0")
  | exact ne_of (by assumption) (by assumption) (by intro z; cases z))
local macro_rules | `(tactic| walk_at "hp") => `(tactic| first
  | assumption
  | exact upd_same
  | exact at_upd (by walk_at "ne") (by walk_at "hp"))
local macro_rules | `(tactic| walk_at "frs") => `(tactic| first
  | exact noseq_new (by walk_at "fr")
  | exact noseq_ins (by walk_at "hp")
  | exact noseq_dk (by walk_at "hp")
  | exact noseq_dt (by walk_at "hp"))
local macro_rules | `(tactic| walk_at "sq") => `(tactic| first
  | assumption
  | exact SqL.of (by walk_at "hp")
  | exact Same.seq (by assumption) (by assumption)
  | exact seqL_upd (by walk_at "frs") (by walk_at "sq")
  | exact Keep.seqL (by assumption) (by walk_at "sq") (by walk_at "nm"))
local macro_rules | `(tactic| walk_at "st") => `(tactic| first
  | assumption
  | exact SqT.of (by walk_at "hp")
  | exact seqT_upd (by walk_at "frs") (by walk_at "st")
  | exact Keep.seqT (by assumption) (by walk_at "st") (by walk_at "nm"))
local macro_rules | `(tactic| walk_at "side") => `(tactic| first | decide | omega | (refine ⟨?_, ?_⟩ <;> omega))
local macro_rules | `(tactic| walk_at "go1") => `(tactic| first
  | with_reducible refine g_seq ?_
  | with_reducible refine g_asg ?_
  | with_reducible refine g_name ?_
  | with_reducible refine g_op ?_
  | ((with_reducible refine hd_var ?_); refine g_var rfl ?_)
  | with_reducible refine g_c ?_
  | with_reducible refine g_I0 ?_
  | with_reducible refine g_ifS ?_
  | with_reducible refine g_test ?_
  | with_reducible refine g_bl ?_
  | with_reducible refine g_itT ?_
  | with_reducible refine g_itF ?_
  | with_reducible refine g_itNT ?_
  | with_reducible refine g_itNF ?_
  | with_reducible refine g_nx ?_
  | with_reducible refine g_ret ?_
  | with_reducible refine g_cb ?_
  | with_reducible refine g_cons ?_
  | with_reducible refine g_nil ?_
  | with_reducible refine g_call ?_
  | with_reducible refine g_eqI ?_
  | with_reducible refine g_neI ?_
  | with_reducible refine g_eqS ?_
  | with_reducible refine g_neS ?_
  | with_reducible refine g_eqB ?_
  | with_reducible refine g_neB ?_
  | with_reducible refine g_isN0 ?_
  | with_reducible refine g_isNi ?_
  | with_reducible refine g_isNr ?_
  | with_reducible refine g_notN0 ?_
  | with_reducible refine g_notNi ?_
  | with_reducible refine g_notNr ?_
  | with_reducible refine g_B ?_
  | with_reducible refine g_and ?_
  | with_reducible refine g_or ?_
  | with_reducible refine g_not ?_
  | with_reducible refine g_andV ?_
  | with_reducible refine g_orV ?_
  | with_reducible refine g_notV ?_
  | with_reducible refine g_if ?_
  | with_reducible refine g_intI ?_
  | with_reducible refine g_intB ?_
  | with_reducible refine g_max ?_
  | with_reducible refine g_min ?_
  | with_reducible refine g_un ?_
  | with_reducible refine g_U ?_
  | with_reducible refine g_drop ?_
  | with_reducible refine g_retN ?_
  | with_reducible refine g_ct ?_
  | with_reducible refine g_brk ?_
  | with_reducible refine g_raise ?_
  | with_reducible refine g_tup ?_
  | with_reducible refine g_lst ?_
  | with_reducible refine g_meth ?_
  | with_reducible refine g_for ?_
  | with_reducible refine g_iR1 ?_
  | with_reducible refine g_iR2 ?_
  | with_reducible refine g_iL ?_
  | with_reducible refine g_iT ?_
  | with_reducible refine g_lc ?_
  | with_reducible refine g_sosc ?_
  | with_reducible refine g_make ?_
  | with_reducible refine g_iS ?_
  | ((with_reducible refine hd_repS ?_); refine g_repS (by decide) (by decide) (by decide +kernel) ?_)
  | ((with_reducible refine hd_addSt ?_); refine g_addSt (by decide +kernel) ?_)
  | with_reducible refine g_yes1 ?_
  | with_reducible refine g_m1 ?_
  | with_reducible refine g_str1 ?_
  | with_reducible refine g_int1 ?_
  | with_reducible refine g_chain ?_
  | with_reducible refine g_slT ?_
  | with_reducible refine g_npart ?_
  | with_reducible refine g_part ?_
  | with_reducible refine g_isB ?_
  | with_reducible refine g_repl ?_
  | with_reducible refine g_ord ?_
  | ((with_reducible refine hd_mul ?_); first | refine g_mulR (by walk_at "side") ?_ | refine g_mulL (by walk_at "side") ?_)
  | ((with_reducible refine hd_div ?_); refine g_div (by walk_at "side") ?_)
  | ((with_reducible refine hd_mod ?_); refine g_mod (by walk_at "side") ?_)
  | ((with_reducible refine hd_pow ?_); refine g_pow (by walk_at "side") ?_)
  | ((with_reducible refine hd_fld ?_); refine g_fld ?_)
  | ((with_reducible refine hd_fldv ?_); refine g_fldv (by walk_at "hp") (by rfl) ?_)
  | ((with_reducible refine hd_methv ?_); refine g_methv (by walk_at "hp") (by rfl) ?_)
  | ((with_reducible refine hd_lenQ ?_); first | refine g_lenL (by walk_at "sq") ?_ | refine g_lenT (by walk_at "st") ?_)
  | ((with_reducible refine hd_aug ?_); refine g_aug rfl ?_)
  | with_reducible refine g_ipI ?_
  | with_reducible refine g_sub ?_
  | ((with_reducible refine hd_sfld ?_); refine g_sfld ?_)
  | ((with_reducible refine hd_sfldv ?_); refine g_sfldv (by walk_at "hp") (by walk_at "few") (by walk_at "pf") ?_)
  | ((with_reducible refine hd_setL ?_); refine g_setL (by walk_at "hp") ?_ ?_ ?_)
  | with_reducible refine g_bm ?_
  | with_reducible refine g_bm0 ?_
  | ((with_reducible refine hd_tyL ?_); refine g_tyL (by walk_at "hp") ?_)
  | ((with_reducible refine hd_listOf ?_); first | refine g_listL (by walk_at "sq") ?_ | refine g_listT (by walk_at "st") ?_))
local macro_rules | `(tactic| walk_at "few") => `(tactic| first | decide | (simp only [List.length_cons, List.length_nil]; decide))
local macro_rules | `(tactic| walk_at "go") => `(tactic| repeat walk_at "go1")
local macro_rules | `(tactic| walk_at "len") => `(tactic| (intro h; first | (obtain ⟨e, _⟩ := h; subst e; rfl) | (obtain ⟨_, e, _⟩ := h; subst e; rfl) | (obtain ⟨_, _, e, _⟩ := h; subst e; rfl) | (obtain ⟨_, _, _, e, _⟩ := h; subst e; rfl) | (obtain ⟨_, _, _, _, e, _⟩ := h; subst e; rfl) | (obtain ⟨_, _, _, _, _, e, _⟩ := h; subst e; rfl) | (obtain ⟨_, _, _, _, _, _, e, _⟩ := h; subst e; rfl) | (obtain ⟨_, _, _, _, _, _, _, e, _⟩ := h; subst e; rfl) | (obtain ⟨_, _, _, _, _, _, _, _, e, _⟩ := h; subst e; rfl) | (obtain ⟨_, _, _, _, _, _, _, _, _, e, _⟩ := h; subst e; rfl) | (obtain ⟨_, _, _, _, _, _, _, _, _, _, e, _⟩ := h; subst e; rfl) | (obtain ⟨_, _, _, _, _, _, _, _, _, _, _, e, _⟩ := h; subst e; rfl) | (obtain ⟨_, _, _, _, _, _, _, _, _, _, _, _, e, _⟩ := h; subst e; rfl) | (obtain ⟨_, _, _, _, _, _, _, _, _, _, _, _, _, e, _⟩ := h; subst e; rfl) | (obtain ⟨_, _, _, _, _, _, _, _, _, _, _, _, _, _, e, _⟩ := h; subst e; rfl) | (obtain ⟨_, _, _, _, _, _, _, _, _, _, _, _, _, _, _, e, _⟩ := h; subst e; rfl)))
local macro_rules | `(tactic| walk_at "pf") => `(tactic| first
  | exact pf0
  | exact pfs
  | exact pfn (by decide +kernel) (by walk_at "pf"))
open PySem PySem.Spec L2
/-- some whole number that is not negative -/
def sp__law_row (K : Frag) : Sp := fun vs H Q _ => ∃ (a : Addr) (ns : List Int) (k : Int), vs = [.ref a, .int k] ∧ SqL K H a (ns.map V.int) ∧ 0 ≤ k ∧ ∀ n : Int, 0 ≤ n → Q (.int n) H
abbrev N__law_row : List Str := ["_law_script", "_law_k", "_law_cell", "_law_low", "_law_high"]
def t__law_row (K : Frag) (E : XK) : TS :=
  (tSeq (tAsg (tVar 1) (gName 2)) (tCutG (tIfS (tTest (tOp (rI0 fun i j => V.bl (decide (j < i))) (tCB (rLenQ K) (tCons (tVar 0) tNil)) (tC (V.int 0)))) (tAsg (tCB rInt (tCons (tOp (rIxL K) (tVar 0) (tOp (rI (fun _ j => 0 < j) fun i j => V.int (i % j)) (tVar 1) (tCB (rLenQ K) (tCons (tVar 0) tNil)))) tNil)) (gName 2)) tNext) (tCutG (tIfS (tTest (tOp (rI0 fun i j => V.bl (decide (i < j))) (tVar 2) (tC (V.int 0)))) (tAsg (tOp (rI0 fun i j => V.int (i - j)) (tOp (rI CMul fun i j => V.int (i * j)) (tUn (rU fun i => V.int (-i)) (tC (V.int 2))) (tVar 2)) (tC (V.int 1))) (gName 2)) tNext) (tSeq (tIfS (tAnd (tTest (tOp (rI0 fun i j => V.bl (decide (i < j))) (tVar 1) (tCB (rLenQ K) (tCons (tVar 0) tNil)))) (tTest (tOp (rI0 fun i j => V.bl (decide (j ≤ i))) (tVar 2) (tOp (rI CPow fun i j => V.int (i ^ j.toNat)) (tC (V.int 10)) (tC (V.int 9)))))) (tRet (tVar 2)) tNext) (tSeq (tAsg (tOp (rI (fun _ j => 0 < j) fun i j => V.int (i % j)) (tCB rInt (tCons (tOp (rI0 fun i j => V.int (i + j)) (tOp (rI0 fun i j => V.int (i + j)) (tOp (rI CMul fun i j => V.int (i * j)) (tVar 2) (tC (V.int 48271))) (tOp (rI CMul fun i j => V.int (i * j)) (tVar 1) (tC (V.int 69621)))) (tC (V.int 11))) tNil)) (tC (V.int 2147483647))) (gName 3)) (tSeq (tAsg (tOp (rI (fun _ j => 0 < j) fun i j => V.int (i % j)) (tCB rInt (tCons (tOp (rI0 fun i j => V.int (i + j)) (tOp (rI0 fun i j => V.int (i + j)) (tOp (rI0 fun i j => V.int (i + j)) (tOp (rI CMul fun i j => V.int (i * j)) (tVar 3) (tC (V.int 40692))) (tVar 2)) (tOp (rI CMul fun i j => V.int (i * j)) (tVar 1) (tC (V.int 16807)))) (tC (V.int 5))) tNil)) (tC (V.int 2147483399))) (gName 4)) (tSeq (tAsg (tOp (rI (fun _ j => 0 < j) fun i j => V.int (i % j)) (tCB rInt (tCons (tOp (rI0 fun i j => V.int (i + j)) (tOp (rI0 fun i j => V.int (i + j)) (tOp (rI CMul fun i j => V.int (i * j)) (tVar 3) (tC (V.int 69621))) (tOp (rI CMul fun i j => V.int (i * j)) (tVar 4) (tC (V.int 7)))) (tVar 1)) tNil)) (tC (V.int 2147483647))) (gName 3)) (tRet (tOp (rI0 fun i j => V.int (i + j)) (tOp (rI CMul fun i j => V.int (i * j)) (tVar 4) (tC (V.int 2147483647))) (tVar 3))))))))))
theorem len__law_row {K : Frag} {vs : List V} {H : Hp} {Q : VK} {E : XK} : sp__law_row K vs H Q E → vs.length = (["_law_script", "_law_k"] : List Str).length := by walk_at "len"
theorem pure__law_row {K : Frag} {vs : List V} {H : Hp} {Q : VK} {E : XK} (h : sp__law_row K vs H Q E) : t__law_row K E { nx := fun _ H' => Q .non H', rt := Q } (start N__law_row vs) H := by
  obtain ⟨a, ns, k, rfl, hS, hk, q⟩ := h
  unfold t__law_row
  walk_at "go"
  refine g_cut (fun σ H' => H' = H ∧ ∃ c : Int, σ = [some (.ref a), some (.int k), some (.int c), none, none]) ?_ ?_
  · walk_at "go"
    refine g_it (fun hl => ?_) (fun hl => ?_)
    · walk_at "go"
      have hlen : 0 < ns.length := by simpa using hl
      have hm : k % ((ns.map V.int).length : Int) = ((k.toNat % ns.length : Nat) : Int) := by
        rw [List.length_map]
        have : k = (k.toNat : Int) := by omega
        rw [this]
        simp
      refine g_ixL (n := k.toNat % ns.length) (v := .int (ns[k.toNat % ns.length]'(Nat.mod_lt _ hlen))) (by walk_at "sq") (by rw [List.getElem?_map, List.getElem?_eq_getElem (Nat.mod_lt _ hlen)]; rfl) hm ?_
      walk_at "go"
      exact ⟨rfl, _, rfl⟩
    · walk_at "go"
      exact ⟨rfl, _, rfl⟩
  · rintro σ H' ⟨rfl, c, rfl⟩
    refine g_cut (fun σ H1 => H1 = H' ∧ ∃ c : Int, 0 ≤ c ∧ σ = [some (.ref a), some (.int k), some (.int c), none, none]) ?_ ?_
    · walk_at "go"
      refine g_it (fun hl => ?_) (fun hl => ?_)
      · walk_at "go"
        exact ⟨rfl, _, by omega, rfl⟩
      · walk_at "go"
        exact ⟨rfl, _, by omega, rfl⟩
    · rintro σ H1 ⟨rfl, c, hc, rfl⟩
      walk_at "go"
      refine g_it (fun hl => ?_) (fun hl => ?_)
      · walk_at "go"
        refine g_it (fun hl => ?_) (fun hl => ?_)
        · walk_at "go"
          exact q _ hc
        · walk_at "go"
          exact q _ (by omega)
      · walk_at "go"
        exact q _ (by omega)
/-! ### texts as lists of codes -/
theorem str_eq {x y : Str} : x = y ↔ x.cps.toList = y.cps.toList := ⟨fun h => by rw [h], fun h => TL.ext_tl h⟩
theorem cat_tl (x y : Str) : (x ++ y).cps.toList = x.cps.toList ++ y.cps.toList := TL.tl_append x y
theorem len_tl (x : Str) : x.length = x.cps.toList.length := TL.len_tl x
def code (c : Nat) : Bool := decide (32 ≤ c) && decide (c ≤ 126) && !decide (c = 37)
def wrong (c : Nat) : Bool := decide (c < 32) || decide (126 < c)
/-- the names between the slashes; the name begun ahead -/
def parts : List Nat → List Nat → List (List Nat)
  | cur, [] => if cur = [] then [] else [cur]
  | cur, c :: r => if c = 47 then (if cur = [] then parts [] r else cur :: parts [] r) else parts (cur ++ [c]) r
theorem parts_slash : ∀ (l cur : List Nat), parts cur (l ++ [47]) = parts cur l
  | [], cur => by
    show (if (47 : Nat) = 47 then (if cur = [] then parts [] [] else cur :: parts [] []) else _) = if cur = [] then [] else [cur]
    rw [if_pos rfl]
    rfl
  | c :: l, cur => by
    show (if c = 47 then (if cur = [] then parts [] (l ++ [47]) else cur :: parts [] (l ++ [47])) else parts (cur ++ [c]) (l ++ [47])) = if c = 47 then (if cur = [] then parts [] l else cur :: parts [] l) else parts (cur ++ [c]) l
    rw [parts_slash l [], parts_slash l (cur ++ [c])]
theorem spl_parts : ∀ (l cur : List Nat), (TL.spl [47] 0 cur l).filter (fun p => !decide (p = [])) = parts cur l
  | [], cur => by
    show ([cur].filter fun p => !decide (p = [])) = if cur = [] then [] else [cur]
    by_cases h : cur = [] <;> simp [h]
  | c :: l, cur => by
    show (if TL.pre [47] (c :: l) = true then cur :: TL.spl [47] 0 [] l else TL.spl [47] 0 (cur ++ [c]) l).filter _ = if c = 47 then (if cur = [] then parts [] l else cur :: parts [] l) else parts (cur ++ [c]) l
    have hp : (TL.pre [47] (c :: l) = true) = (c = 47) := by
      simp [TL.pre]
    by_cases h : c = 47
    · rw [if_pos (by rw [hp]; exact h), if_pos h, List.filter_cons, spl_parts l []]
      by_cases h2 : cur = [] <;> simp [h2]
    · rw [if_neg (by rw [hp]; exact h), if_neg h, spl_parts l (cur ++ [c])]
theorem spl_len : ∀ (l cur : List Nat), (TL.spl [47] 0 cur l).length ≤ l.length + 1
  | [], cur => by show 1 ≤ 1; omega
  | c :: l, cur => by
    show (if TL.pre [47] (c :: l) = true then cur :: TL.spl [47] 0 [] l else TL.spl [47] 0 (cur ++ [c]) l).length ≤ l.length + 1 + 1
    have h1 := spl_len l []
    have h2 := spl_len l (cur ++ [c])
    split
    · rw [List.length_cons]; omega
    · omega
theorem same_new2' {H : Hp} {p q : Addr} {o u : HO} (n : H p = none) (m : upd H p o q = none) : Same H (upd (upd H p o) q u) := fun b z e => at_upd (ne_of_none (at_upd (ne_of_none e n) e) m) (at_upd (ne_of_none e n) e)
def pV (ps : List (List Nat)) : List V := ps.map fun p => V.str ⟨p.toArray⟩
/-! ### the small defs -/
def sp_is_code (_K : Frag) : Sp := fun vs H Q _ => ∃ c : Nat, vs = [.int (c : Int)] ∧ Q (.bl (code c)) H
abbrev N_is_code : List Str := ["code"]
def t_is_code (K : Frag) (E : XK) : TS :=
  (tRet (tAndV (tChain (rI0 fun i j => V.bl (decide (i ≤ j))) (rI0 fun i j => V.bl (decide (i ≤ j))) (tC (V.int 32)) (tVar 0) (tC (V.int 126))) (tOp rNe (tVar 0) (tC (V.int 37)))))
theorem len_is_code {K : Frag} {vs : List V} {H : Hp} {Q : VK} {E : XK} : sp_is_code K vs H Q E → vs.length = (["code"] : List Str).length := by walk_at "len"
theorem pure_is_code {K : Frag} {vs : List V} {H : Hp} {Q : VK} {E : XK} (h : sp_is_code K vs H Q E) : t_is_code K E { nx := fun _ H' => Q .non H', rt := Q } (start N_is_code vs) H := by
  obtain ⟨c, rfl, q⟩ := h
  have e : code c = (decide ((32 : Int) ≤ (c : Int)) && decide ((c : Int) ≤ 126) && !decide ((c : Int) = 37)) := by
    unfold code
    congr 1
    · congr 1
      · exact decide_eq_decide.mpr (by omega)
      · exact decide_eq_decide.mpr (by omega)
    · congr 1
      exact decide_eq_decide.mpr (by omega)
  rw [e] at q
  unfold t_is_code
  walk_at "go"
  refine g_itb (fun h1 => ?_) (fun h1 => ?_)
  · rw [h1] at q
    walk_at "go"
    refine g_itb (fun h2 => ?_) (fun h2 => ?_)
    · rw [h2] at q
      walk_at "go"
      exact q
    · rw [h2] at q
      exact q
  · rw [h1] at q
    walk_at "go"
    exact q
def sp_is_text (_K : Frag) : Sp := fun vs H Q _ => ∃ x : Str, vs = [.str x] ∧ x.length ≤ 100000 ∧ ∀ H', Same H H' → Q (.bl (x.cps.toList.all code)) H'
abbrev N_is_text : List Str := ["text", "char"]
def t_is_text (K : Frag) (E : XK) : TS :=
  (tRet (tCB (rAll K) (tCons (tLc (iStr (tVar 0)) (gName 1) tYes (tCallG (sp_is_code K) [] WF (tCons (tCB rOrd (tCons (tVar 1) tNil)) tNil)) [1]) tNil)))
theorem len_is_text {K : Frag} {vs : List V} {H : Hp} {Q : VK} {E : XK} : sp_is_text K vs H Q E → vs.length = (["text"] : List Str).length := by walk_at "len"
theorem pure_is_text {K : Frag} {vs : List V} {H : Hp} {Q : VK} {E : XK} (h : sp_is_text K vs H Q E) : t_is_text K E { nx := fun _ H' => Q .non H', rt := Q } (start N_is_text vs) H := by
  obtain ⟨x, rfl, hx, q⟩ := h
  unfold t_is_text
  walk_at "go"
  refine l_lcS (s := x) (fun c => some (.bl (code c))) (by omega) (fun D c acc Nx hD hc hl h0 h1 => ?_) fun D hD => ?_
  · walk_at "go"
    refine ⟨rfl, ?_⟩
    walk_at "go"
    refine ⟨c, rfl, ?_⟩
    exact lc_fin hl (h1 _ rfl)
  · walk_at "go"
    have e : x.cps.toList.filterMap (fun c => some (V.bl (code c))) = (x.cps.toList.map code).map V.bl := by
      rw [List.map_map, ← List.filterMap_eq_map]
      rfl
    rw [e]
    refine g_all (SqL.of upd_same) ?_
    have := q (upd H D (.lst ((x.cps.toList.map code).map V.bl))) fun b o e => at_upd (ne_of_none e hD) e
    rw [List.all_map]
    exact this
def sp_parts_of_text (_K : Frag) : Sp := fun vs H Q _ => ∃ x : Str, vs = [.str x] ∧ x.length ≤ 100000 ∧ ∀ p H', Same H H' → H p = none → H' p = some (.lst (pV (parts [] x.cps.toList))) → Q (.ref p) H'
abbrev N_parts_of_text : List Str := ["text", "part"]
def t_parts_of_text (K : Frag) (E : XK) : TS :=
  (tRet (tLc (iList K (tM1 rSplit (tVar 0) (tC (V.str "/")))) (gName 1) (tTest (tOp rNe (tVar 1) (tC (V.str "")))) (tVar 1) [1]))
theorem len_parts_of_text {K : Frag} {vs : List V} {H : Hp} {Q : VK} {E : XK} : sp_parts_of_text K vs H Q E → vs.length = (["text"] : List Str).length := by walk_at "len"
theorem pure_parts_of_text {K : Frag} {vs : List V} {H : Hp} {Q : VK} {E : XK} (h : sp_parts_of_text K vs H Q E) : t_parts_of_text K E { nx := fun _ H' => Q .non H', rt := Q } (start N_parts_of_text vs) H := by
  obtain ⟨x, rfl, hx, q⟩ := h
  unfold t_parts_of_text
  walk_at "go"
  refine ⟨x, "/", rfl, rfl, rfl, Nat.le_trans (show x.length + 2 ≤ 1000000 by omega) (by decide), fun p hp => ?_⟩
  walk_at "go"
  have hsp : Txt.split x "/" = (TL.spl [47] 0 [] x.cps.toList).map SX.S := by
    have := SX.split_S (a := x.cps.toList) (b := [47]) (by simp) (by decide)
    rw [SX.S_tl] at this
    exact this
  have hlen : (Txt.split x "/").length ≤ 100001 := by
    rw [hsp, List.length_map]
    exact Nat.le_trans (spl_len _ _) (by rw [← len_tl]; omega)
  refine l_lcL (SqL.of upd_same) (fun z : Str => if z = "" then none else some (.str z)) (by omega) (fun D z acc Nx hD hz hl h0 h1 => ?_) fun D hD => ?_
  · walk_at "go"
    refine ⟨rfl, ?_⟩
    walk_at "go"
    refine g_itn (fun c => ?_) (fun c => ?_)
    · walk_at "go"
      exact lc_fin hl (h1 _ (if_neg c))
    · walk_at "go"
      exact h0 (if_pos c)
  · have e : (Txt.split x "/").filterMap (fun z : Str => if z = "" then none else some (V.str z)) = pV (parts [] x.cps.toList) := by
      rw [hsp, ← spl_parts, List.filterMap_map]
      unfold pV
      generalize TL.spl [47] 0 [] x.cps.toList = l
      induction l with
      | nil => rfl
      | cons a l ih =>
        rw [List.filterMap_cons, List.filter_cons, ih]
        by_cases h : a = []
        · subst h
          rfl
        · have h' : ¬ SX.S a = "" := fun z => h (congrArg (fun z : Str => z.cps.toList) z)
          have hd : (!decide (a = [])) = true := by simpa using h
          rw [if_pos hd, List.map_cons]
          simp only [Function.comp_apply, if_neg h']
    rw [e]
    exact q D _ (same_new2' hp hD) (fr1 hD) upd_same
open PySem PySem.Spec L2
theorem same_new {H : Hp} {p : Addr} {o : HO} (n : H p = none) : Same H (upd H p o) := fun b u e => at_upd (ne_of_none e n) e
theorem take_nx {α : Type} {l : List α} {i : Nat} {x : α} (h : l[i]? = some x) : l.take (i + 1) = l.take i ++ [x] := by
  rw [List.take_succ, h]
  rfl
theorem drop_nx {α : Type} {l : List α} {i : Nat} {x : α} (h : l[i]? = some x) : l.drop i = x :: l.drop (i + 1) := by
  have hi := (List.getElem?_eq_some_iff.mp h).1
  rw [List.drop_eq_getElem_cons hi, (List.getElem?_eq_some_iff.mp h).2]
theorem one_eq {c : Nat} {x : Str} {d : Nat} (e : x = ⟨#[d]⟩) : ((⟨#[c]⟩ : Str) = x) ↔ c = d := by
  subst e
  constructor
  · intro h
    have := congrArg (fun z : Str => z.cps.toList) h
    simpa using this
  · rintro rfl; rfl
theorem slash : ("/" : Str) = ⟨#[47]⟩ := rfl
theorem one_slash {c : Nat} : ((⟨#[c]⟩ : Str) = "/") ↔ c = 47 := one_eq slash
theorem cut1 {x : Str} : (cutS x none (some 1) = "/") ↔ x.cps.toList.take 1 = [47] := by
  rw [str_eq]
  show (List.take (HT.sIx x.length x.length (some 1) - HT.sIx x.length 0 none) (List.drop (HT.sIx x.length 0 none) x.cps.toList)) = [47] ↔ _
  rw [HT.sIx_none, show (some (1 : Int)) = some ((1 : Nat) : Int) from rfl, HT.sIx_nat, List.drop_zero, Nat.sub_zero, len_tl]
  have : x.cps.toList.take (min 1 x.cps.toList.length) = x.cps.toList.take 1 := by
    rw [Nat.min_def]
    split
    · rfl
    · rw [List.take_of_length_le (by omega), List.take_of_length_le (by omega)]
  rw [this]
theorem last_at {l : List Nat} (h : l ≠ []) : atI l (-1) = some (l.getLastD 0) := by
  have e := List.dropLast_concat_getLast h
  rw [← e, atI_last]
  simp
theorem empty_tl {x : Str} : (x = "") ↔ x.cps.toList = [] := str_eq
/-! ### Path, read_target, read_path -/
def oPath (K : Frag) (d p : Addr) (c : Bool) : HO := .ins (He.ga K "Path") d [("parts", .ref p), ("closed", .bl c)]
def sp_Path___init__ (K : Frag) : Sp := fun vs H Q _ => ∃ (x d p : Addr) (xs : List V) (c : Bool), vs = [.ref x, .ref p, .bl c] ∧ H x = some (.ins (He.ga K "Path") d []) ∧ SqL K H p xs ∧
  ∀ q H', Keep [x] H H' → H q = none → H' q = some (.lst xs) → H' x = some (oPath K d q c) → Q .non H'
abbrev N_Path___init__ : List Str := ["self", "parts", "closed"]
def t_Path___init__ (K : Frag) (E : XK) : TS :=
  (tSeq (sFldC (He.ga K "Path") (tVar 0) (tCB (rListOf K) (tCons (tVar 1) tNil)) ("parts" : Str)) (sFldC (He.ga K "Path") (tVar 0) (tVar 2) ("closed" : Str)))
theorem len_Path___init__ {K : Frag} {vs : List V} {H : Hp} {Q : VK} {E : XK} : sp_Path___init__ K vs H Q E → vs.length = (["self", "parts", "closed"] : List Str).length := by walk_at "len"
theorem pure_Path___init__ {K : Frag} {vs : List V} {H : Hp} {Q : VK} {E : XK} (h : sp_Path___init__ K vs H Q E) : t_Path___init__ K E { nx := fun _ H' => Q .non H', rt := Q } (start N_Path___init__ vs) H := by
  obtain ⟨x, d, p, xs, c, rfl, hx, hp, kQ⟩ := h
  unfold t_Path___init__
  walk_at "go"
  intro q hq
  walk_at "go"
  have nq : q ≠ x := (ne_of_none hx hq).symm
  exact kQ q _ ((((Keep.refl _ _).new hq).mut (by simp)).mut (by simp)) hq (by rw [upd_ne nq, upd_ne nq, upd_same]) upd_same
theorem parts_le : ∀ (l cur p : List Nat), p ∈ parts cur l → p.length ≤ cur.length + l.length
  | [], cur, p, h => by
    have h : p ∈ (if cur = [] then [] else [cur]) := h
    split at h
    · cases h
    · rw [List.mem_singleton.mp h]; omega
  | c :: l, cur, p, h => by
    have h : p ∈ (if c = 47 then (if cur = [] then parts [] l else cur :: parts [] l) else parts (cur ++ [c]) l) := h
    have h1 := parts_le l [] p
    have h2 := parts_le l (cur ++ [c]) p
    rw [List.length_cons]
    simp only [List.length_append, List.length_cons, List.length_nil] at h1 h2
    split at h
    · split at h
      · have := h1 h; omega
      · rcases List.mem_cons.mp h with rfl | h
        · omega
        · have := h1 h; omega
    · have := h2 h; omega
def long (l : List Nat) : Bool := decide (16 < (parts [] l).length) || (parts [] l).any fun p => decide (28 < p.length)
def due (l : List Nat) (tgt : Bool) : Str :=
  if 200 < l.length then "long"
  else if (l.any wrong || (tgt && decide (l = [])) || (!tgt && !decide (l.take 1 = [47]))) = true then "invalid"
  else if (!tgt && long l) = true then "long" else ""
theorem code_wrong {l : List Nat} (h : 37 ∉ l) : l.all code = !l.any wrong := by
  induction l with
  | nil => rfl
  | cons c l ih =>
    have h1 : c ≠ 37 := fun e => h (by simp [e])
    rw [List.all_cons, List.any_cons, ih fun m => h (by simp [m]), Bool.not_or]
    congr 1
    unfold code wrong
    have h2 : (decide (c = 37)) = false := decide_eq_false h1
    rw [h2, Bool.not_false, Bool.and_true, Bool.not_or]
    congr 1
    · rw [← decide_not]; exact decide_eq_decide.mpr (by omega)
    · rw [← decide_not]; exact decide_eq_decide.mpr (by omega)
def sp_read_target (K : Frag) : Sp := fun vs H Q E => ∃ x : Str, vs = [.str x] ∧ x.length ≤ 100000 ∧ 37 ∉ x.cps.toList ∧ (∀ H', Same H H' → due x.cps.toList true = "long" → E (.ref (He.ga K "NameTooLong")) none H') ∧
  (∀ H', Same H H' → due x.cps.toList true = "invalid" → E (.ref (He.ga K "InvalidPath")) none H') ∧ (∀ p H', Same H H' → due x.cps.toList true = "" → H p = none → H' p = some (.lst (pV (parts [] x.cps.toList))) → Q (.ref p) H')
abbrev N_read_target : List Str := ["text"]
def t_read_target (K : Frag) (E : XK) : TS :=
  (tSeq (tIfS (tTest (tOp (rI0 fun i j => V.bl (decide (j < i))) (tCB rLenS (tCons (tVar 0) tNil)) (tC (V.int 200)))) (tRaiseC (WD E) (He.ga K "NameTooLong")) tNext) (tSeq (tIfS (tOr (tTest (tOp rEq (tVar 0) (tC (V.str "")))) (tNot (tB (tCallG (sp_is_text K) [] (WD E) (tCons (tVar 0) tNil))))) (tRaiseC (WD E) (He.ga K "InvalidPath")) tNext) (tRet (tCallG (sp_parts_of_text K) [] (WD E) (tCons (tVar 0) tNil)))))
theorem len_read_target {K : Frag} {vs : List V} {H : Hp} {Q : VK} {E : XK} : sp_read_target K vs H Q E → vs.length = (["text"] : List Str).length := by walk_at "len"
theorem pure_read_target {K : Frag} {vs : List V} {H : Hp} {Q : VK} {E : XK} (h : sp_read_target K vs H Q E) : t_read_target K E { nx := fun _ H' => Q .non H', rt := Q } (start N_read_target vs) H := by
  obtain ⟨x, rfl, hx, h37, e1, e2, kQ⟩ := h
  unfold t_read_target
  walk_at "go"
  refine g_lenS (by omega) ?_
  walk_at "go"
  have cw := code_wrong h37
  have hl := len_tl x
  refine g_it (fun c => ?_) (fun c => ?_)
  · walk_at "go"
    refine e1 H (fun b o e => e) ?_
    unfold due
    rw [if_pos (by omega)]
  · walk_at "go"
    have d1 : due x.cps.toList true = ((if (x.cps.toList.any wrong || decide (x.cps.toList = [])) = true then "invalid" else "") : Str) := by
      unfold due
      rw [if_neg (by omega)]
      simp
    refine g_it (fun c1 => ?_) (fun c1 => ?_)
    · walk_at "go"
      refine e2 H (fun b o e => e) ?_
      rw [d1, if_pos (by rw [decide_eq_true (empty_tl.mp c1)]; simp)]
    · walk_at "go"
      refine ⟨x, rfl, hx, fun H1 S1 => ?_⟩
      walk_at "go"
      rw [cw, Bool.not_not]
      have c1' : ¬ x.cps.toList = [] := fun z => c1 (empty_tl.mpr z)
      rw [decide_eq_false c1', Bool.or_false] at d1
      refine g_itb (fun c2 => ?_) (fun c2 => ?_)
      · walk_at "go"
        exact e2 H1 S1 (by rw [d1, if_pos c2])
      · walk_at "go"
        refine ⟨x, rfl, hx, fun p H2 S2 np hp => ?_⟩
        exact kQ p H2 (fun b o e => S2 b o (S1 b o e)) (by rw [d1, if_neg (by rw [c2]; exact Bool.false_ne_true)]) (S1.free np) hp
def closed (l : List Nat) : Bool := decide (0 < (parts [] l).length) && decide (l.getLastD 0 = 47)
def sp_read_path (K : Frag) : Sp := fun vs H Q E => ∃ x : Str, vs = [.str x] ∧ x.length ≤ 100000 ∧ 37 ∉ x.cps.toList ∧ (∀ H', Same H H' → due x.cps.toList false = "long" → E (.ref (He.ga K "NameTooLong")) none H') ∧
  (∀ H', Same H H' → due x.cps.toList false = "invalid" → E (.ref (He.ga K "InvalidPath")) none H') ∧
  (∀ a d p H', Same H H' → due x.cps.toList false = "" → H a = none → H p = none → H' p = some (.lst (pV (parts [] x.cps.toList))) → H' a = some (oPath K d p (closed x.cps.toList)) → Q (.ref a) H')
abbrev N_read_path : List Str := ["text", "parts", "part"]
def t_read_path (K : Frag) (E : XK) : TS :=
  (tSeq (tIfS (tTest (tOp (rI0 fun i j => V.bl (decide (j < i))) (tCB rLenS (tCons (tVar 0) tNil)) (tC (V.int 200)))) (tRaiseC (WD E) (He.ga K "NameTooLong")) tNext) (tSeq (tIfS (tOr (tTest (tOp rNe (tSl rSlS (tVar 0) tNoPart (tPart (tC (V.int 1)))) (tC (V.str "/")))) (tNot (tB (tCallG (sp_is_text K) [] (WD E) (tCons (tVar 0) tNil))))) (tRaiseC (WD E) (He.ga K "InvalidPath")) tNext) (tSeq (tAsg (tCallG (sp_parts_of_text K) [] (WD E) (tCons (tVar 0) tNil)) (gName 1)) (tSeq (tIfS (tOr (tTest (tOp (rI0 fun i j => V.bl (decide (j < i))) (tCB (rLenQ K) (tCons (tVar 1) tNil)) (tC (V.int 16)))) (tB (tCB (rAny K) (tCons (tLc (iList K (tVar 1)) (gName 2) tYes (tOp (rI0 fun i j => V.bl (decide (j < i))) (tCB rLenS (tCons (tVar 2) tNil)) (tC (V.int 28))) [2]) tNil)))) (tRaiseC (WD E) (He.ga K "NameTooLong")) tNext) (tRet (tMakeG (He.ga K "Path") (sp_Path___init__ K) [] (WD E) (tCons (tVar 1) (tCons (tAndV (tOp (rI0 fun i j => V.bl (decide (j < i))) (tCB (rLenQ K) (tCons (tVar 1) tNil)) (tC (V.int 0))) (tOp rEq (tOp rIxS (tVar 0) (tUn (rU fun i => V.int (-i)) (tC (V.int 1)))) (tC (V.str "/")))) tNil))))))))
theorem len_read_path {K : Frag} {vs : List V} {H : Hp} {Q : VK} {E : XK} : sp_read_path K vs H Q E → vs.length = (["text"] : List Str).length := by walk_at "len"
theorem pure_read_path {K : Frag} {vs : List V} {H : Hp} {Q : VK} {E : XK} (h : sp_read_path K vs H Q E) : t_read_path K E { nx := fun _ H' => Q .non H', rt := Q } (start N_read_path vs) H := by
  obtain ⟨x, rfl, hx, h37, e1, e2, kQ⟩ := h
  unfold t_read_path
  walk_at "go"
  refine g_lenS (by omega) ?_
  walk_at "go"
  have cw := code_wrong h37
  have hl := len_tl x
  refine g_it (fun c => ?_) (fun c => ?_)
  · walk_at "go"
    refine e1 H (fun b o e => e) ?_
    unfold due
    rw [if_pos (by omega)]
  · walk_at "go"
    have d1 : due x.cps.toList false = ((if (x.cps.toList.any wrong || !decide (x.cps.toList.take 1 = [47])) = true then "invalid" else if long x.cps.toList = true then "long" else "") : Str) := by
      unfold due
      rw [if_neg (by omega)]
      simp
    refine g_slS (by omega) ?_
    walk_at "go"
    refine g_itn (fun c1 => ?_) (fun c1 => ?_)
    · walk_at "go"
      refine e2 H (fun b o e => e) ?_
      rw [d1, if_pos (by rw [decide_eq_false (fun z => c1 (cut1.mpr z))]; simp)]
    · walk_at "go"
      have ct := cut1.mp c1
      refine ⟨x, rfl, hx, fun H1 S1 => ?_⟩
      walk_at "go"
      rw [cw, Bool.not_not]
      rw [decide_eq_true ct, Bool.not_true, Bool.or_false] at d1
      refine g_itb (fun c2 => ?_) (fun c2 => ?_)
      · walk_at "go"
        exact e2 H1 S1 (by rw [d1, if_pos c2])
      · rw [if_neg (by rw [c2]; exact Bool.false_ne_true)] at d1
        walk_at "go"
        refine ⟨x, rfl, hx, fun p H2 S2 np hp => ?_⟩
        have S02 : Same H H2 := fun b o e => S2 b o (S1 b o e)
        walk_at "go"
        have pl : (pV (parts [] x.cps.toList)).length = (parts [] x.cps.toList).length := List.length_map _
        rw [pl]
        refine g_it (fun c3 => ?_) (fun c3 => ?_)
        · walk_at "go"
          refine e1 H2 S02 ?_
          rw [d1, if_pos (by unfold long; rw [decide_eq_true (by omega)]; rfl)]
        · walk_at "go"
          refine l_lcL (SqL.of hp) (fun p : List Nat => some (.bl (decide (28 < p.length)))) (by omega) (fun D v acc Nx hD hv hl h0 h1 => ?_) fun D hD => ?_
          · walk_at "go"
            refine ⟨rfl, ?_⟩
            walk_at "go"
            have hp1 := parts_le _ _ _ hv
            have hp2 : (⟨v.toArray⟩ : Str).length = v.length := by simp [Str.length]
            refine g_lenS (by rw [hp2]; simp only [List.length_nil, Nat.zero_add] at hp1; omega) ?_
            walk_at "go"
            have e : decide ((28 : Int) < ((⟨v.toArray⟩ : Str).length : Int)) = decide (28 < v.length) := decide_eq_decide.mpr (by rw [hp2]; omega)
            rw [e]
            exact lc_fin hl (h1 _ rfl)
          · walk_at "go"
            have e : (parts [] x.cps.toList).filterMap (fun p : List Nat => some (V.bl (decide (28 < p.length)))) = ((parts [] x.cps.toList).map fun p => decide (28 < p.length)).map V.bl := by
              rw [List.map_map, ← List.filterMap_eq_map]
              rfl
            rw [e]
            refine g_any (SqL.of upd_same) ?_
            walk_at "go"
            have hlg : long x.cps.toList = ((parts [] x.cps.toList).map fun p => decide (28 < p.length)).any id := by
              unfold long
              rw [decide_eq_false (by omega), Bool.false_or, List.any_map]
              rfl
            have S03 : Same H (upd H2 D (.lst (((parts [] x.cps.toList).map fun p => decide (28 < p.length)).map V.bl))) := fun b o e => at_upd (ne_of_none (S02 b o e) hD) (S02 b o e)
            refine g_itb (fun c4 => ?_) (fun c4 => ?_)
            · walk_at "go"
              exact e1 _ S03 (by rw [d1, hlg, if_pos c4])
            · walk_at "go"
              rw [hlg, if_neg (by rw [c4]; exact Bool.false_ne_true)] at d1
              have hp3 : (upd H2 D (.lst (((parts [] x.cps.toList).map fun p => decide (28 < p.length)).map V.bl))) p = some (.lst (pV (parts [] x.cps.toList))) := at_upd (ne_of_none hp hD) hp
              generalize upd H2 D (.lst (((parts [] x.cps.toList).map fun p => decide (28 < p.length)).map V.bl)) = H3 at S03 hp3
              have fin : ∀ cl, cl = closed x.cps.toList → ∀ a d, H3 a = none → H3 d = none → d ≠ a → sp_Path___init__ K [.ref a, .ref p, .bl cl] (upd (upd H3 d (.own a)) a (.ins (He.ga K "Path") d [])) (fun v H2 => v = .non ∧ Q (.ref a) H2) E := by
                intro cl ecl a d na nd ne
                refine ⟨a, d, p, _, cl, rfl, upd_same, SqL.of (at_upd (ne_of_none hp3 na) (at_upd (ne_of_none hp3 nd) hp3)), fun q H4 k4 nq hq ha => ⟨rfl, ?_⟩⟩
                refine kQ a d q H4 (fun b o e => k4 b o (at_upd (ne_of_none (S03 b o e) na) (at_upd (ne_of_none (S03 b o e) nd) (S03 b o e))) (nm1 (ne_of_none (S03 b o e) na))) d1 (S03.free na) (S03.free (fr2 nq)) hq ?_
                rw [ha, ecl]
              walk_at "go"
              rw [pl]
              refine g_it (fun c5 => ?_) (fun c5 => ?_)
              · walk_at "go"
                have nl : x.cps.toList ≠ [] := fun z => by rw [z] at ct; cases ct
                refine g_ixS (by omega) (last_at nl) ?_
                walk_at "go"
                rw [decide_eq_decide.mpr one_slash]
                exact fin _ (by unfold closed; rw [decide_eq_true (show 0 < (parts [] x.cps.toList).length by omega), Bool.true_and])
              · walk_at "go"
                exact fin _ (by unfold closed; rw [decide_eq_false (show ¬ 0 < (parts [] x.cps.toList).length by omega), Bool.false_and])
open PySem PySem.Spec L2
def sp__law_bad (_K : Frag) : Sp := fun vs H Q _ => ∃ x : Str, vs = [.str x] ∧ Q (.bl (x.cps.toList.any wrong)) H
abbrev N__law_bad : List Str := ["_law_text_here", "_law_char_here"]
def t__law_bad (K : Frag) (E : XK) : TS :=
  (tSeq (tFor (iStr (tVar 0)) (gName 1) (tIfS (tOr (tTest (tOp (rI0 fun i j => V.bl (decide (i < j))) (tCB rOrd (tCons (tVar 1) tNil)) (tC (V.int 32)))) (tTest (tOp (rI0 fun i j => V.bl (decide (j < i))) (tCB rOrd (tCons (tVar 1) tNil)) (tC (V.int 126))))) (tRet (tC (V.bl true))) tNext)) (tRet (tC (V.bl false))))
theorem len__law_bad {K : Frag} {vs : List V} {H : Hp} {Q : VK} {E : XK} : sp__law_bad K vs H Q E → vs.length = (["_law_text_here"] : List Str).length := by walk_at "len"
theorem any_take {α : Type} {p : α → Bool} {l : List α} {i : Nat} {x : α} (h : l[i]? = some x) (hp : p x = true) : l.any p = true := List.any_eq_true.mpr ⟨x, List.mem_of_getElem? h, hp⟩
theorem pure__law_bad {K : Frag} {vs : List V} {H : Hp} {Q : VK} {E : XK} (h : sp__law_bad K vs H Q E) : t__law_bad K E { nx := fun _ H' => Q .non H', rt := Q } (start N__law_bad vs) H := by
  obtain ⟨x, rfl, q⟩ := h
  unfold t__law_bad
  walk_at "go"
  refine l_str (s := x) (fun i σ H' => H' = H ∧ (∃ v, σ = [some (.str x), v]) ∧ (x.cps.toList.take i).any wrong = false) ⟨rfl, ⟨none, rfl⟩, rfl⟩ ?_ ?_
  · rintro i c σ H' hc ⟨rfl, ⟨v, rfl⟩, no⟩
    have fin : wrong c = true → Q (.bl true) H' := fun w => by rw [any_take hc w] at q; exact q
    walk_at "go"
    refine g_it (fun c1 => ?_) (fun c1 => ?_)
    · walk_at "go"
      exact fin (by unfold wrong; rw [decide_eq_true (show c < 32 by omega)]; rfl)
    · walk_at "go"
      refine g_it (fun c2 => ?_) (fun c2 => ?_)
      · walk_at "go"
        exact fin (by unfold wrong; rw [decide_eq_true (show 126 < c by omega), Bool.or_true])
      · walk_at "go"
        refine ⟨rfl, ⟨_, rfl⟩, ?_⟩
        rw [take_nx hc, List.any_append, no]
        unfold wrong
        simp
        omega
  · rintro σ H' ⟨rfl, ⟨v, rfl⟩, no⟩
    walk_at "go"
    rw [List.take_length] at no
    rw [no] at q
    exact q
def sp__law_parts (_K : Frag) : Sp := fun vs H Q _ => ∃ x : Str, vs = [.str x] ∧ x.length ≤ 100000 ∧ ∀ p H', Same H H' → H p = none → H' p = some (.lst (pV (parts [] x.cps.toList))) → Q (.ref p) H'
abbrev N__law_parts : List Str := ["_law_text_here", "_law_parts_here", "_law_part", "_law_char_here"]
def t__law_parts (K : Frag) (E : XK) : TS :=
  (tSeq (tAsg (tLst tNil) (gName 1)) (tSeq (tAsg (tC (V.str "")) (gName 2)) (tSeq (tFor (iStr (tOp rAddSt (tVar 0) (tC (V.str "/")))) (gName 3) (tIfS (tTest (tOp rNe (tVar 3) (tC (V.str "/")))) (tAsg (tOp rAddSt (tVar 2) (tVar 3)) (gName 2)) (tIfS (tTest (tOp rNe (tVar 2) (tC (V.str "")))) (tSeq (tDrop (tBM K "list" rAppend (tVar 1) (tCons (tVar 2) tNil))) (tAsg (tC (V.str "")) (gName 2))) tNext))) (tRet (tVar 1)))))
theorem len__law_parts {K : Frag} {vs : List V} {H : Hp} {Q : VK} {E : XK} : sp__law_parts K vs H Q E → vs.length = (["_law_text_here"] : List Str).length := by walk_at "len"
theorem pV_snoc (ps : List (List Nat)) (p : List Nat) : pV (ps ++ [p]) = pV ps ++ [.str ⟨p.toArray⟩] := by
  unfold pV
  rw [List.map_append]
  rfl
theorem pure__law_parts {K : Frag} {vs : List V} {H : Hp} {Q : VK} {E : XK} (h : sp__law_parts K vs H Q E) : t__law_parts K E { nx := fun _ H' => Q .non H', rt := Q } (start N__law_parts vs) H := by
  obtain ⟨x, rfl, hx, q⟩ := h
  unfold t__law_parts
  walk_at "go"
  refine g_newN (by decide) fun p hp => ?_
  walk_at "go"
  refine g_addSt (by have : ("/" : Str).length = 1 := rfl; omega) ?_
  walk_at "go"
  have et : (x ++ ("/" : Str)).cps.toList = x.cps.toList ++ [47] := cat_tl _ _
  refine l_str (s := x ++ "/") (fun i σ H' => ∃ (acc : List (List Nat)) (cur : List Nat) (v : Option V), H' = upd H p (.lst (pV acc)) ∧ σ = [some (.str x), some (.ref p), some (.str ⟨cur.toArray⟩), v] ∧ acc.length ≤ i ∧ cur.length ≤ i ∧ (cur ≠ [] → i ≤ x.cps.toList.length) ∧
    acc ++ parts cur ((x.cps.toList ++ [47]).drop i) = parts [] (x.cps.toList ++ [47]))
    ⟨[], [], none, rfl, rfl, Nat.le_refl _, Nat.le_refl _, fun z => absurd rfl z, by simp⟩ ?_ ?_
  · rw [et]
    rintro i c σ H' hc ⟨acc, cur, v, rfl, rfl, la, lc, lx, inv⟩
    have hi := (List.getElem?_eq_some_iff.mp hc).1
    rw [List.length_append, ← len_tl] at hi
    simp only [List.length_cons, List.length_nil] at hi
    have dn := drop_nx hc
    rw [dn] at inv
    have pc : parts cur (c :: (x.cps.toList ++ [47]).drop (i + 1)) = if c = 47 then (if cur = [] then parts [] ((x.cps.toList ++ [47]).drop (i + 1)) else cur :: parts [] ((x.cps.toList ++ [47]).drop (i + 1))) else parts (cur ++ [c]) ((x.cps.toList ++ [47]).drop (i + 1)) := rfl
    rw [pc] at inv
    have cl : (⟨cur.toArray⟩ : Str).length = cur.length := by simp [Str.length]
    walk_at "go"
    refine g_itn (fun c1 => ?_) (fun c1 => ?_)
    · have c1' : ¬ c = 47 := fun z => c1 (one_slash.mpr z)
      rw [if_neg c1'] at inv
      walk_at "go"
      refine g_addSt (by rw [cl]; show cur.length + 1 ≤ _; omega) ?_
      walk_at "go"
      refine ⟨acc, cur ++ [c], some (.str ⟨#[c]⟩), rfl, ?_, by omega, by simp; omega, fun _ => ?_, inv⟩
      · have : (⟨cur.toArray⟩ : Str) ++ (⟨#[c]⟩ : Str) = ⟨(cur ++ [c]).toArray⟩ := str_eq.mpr (by rw [cat_tl])
        rw [this]
        rfl
      · by_cases z : i = x.cps.toList.length
        · subst z
          rw [List.getElem?_append_right (Nat.le_refl _), Nat.sub_self] at hc
          exact absurd (Option.some.inj hc).symm c1'
        · rw [← len_tl] at z ⊢
          omega
    · have c1' : c = 47 := one_slash.mp c1
      rw [if_pos c1'] at inv
      walk_at "go"
      refine g_itn (fun c2 => ?_) (fun c2 => ?_)
      · have c2' : ¬ cur = [] := fun z => c2 (by rw [z]; rfl)
        rw [if_neg c2'] at inv
        walk_at "go"
        refine g_app (by walk_at "hp") (by unfold pV; rw [List.length_map]; omega) ?_
        walk_at "go"
        refine ⟨acc ++ [cur], [], _, by rw [upd_upd, pV_snoc], rfl, by simp; omega, by simp, fun z => absurd rfl z, by rw [List.append_assoc]; exact inv⟩
      · have c2' : cur = [] := empty_tl.mp c2
        rw [if_pos c2'] at inv
        walk_at "go"
        refine ⟨acc, cur, _, rfl, rfl, by omega, by omega, fun z => absurd c2' z, ?_⟩
        rw [c2']
        exact inv
  · rw [et]
    rintro σ H' ⟨acc, cur, v, rfl, rfl, la, lc, lx, inv⟩
    walk_at "go"
    have : cur = [] := Classical.byContradiction fun z => by
      have := lx z
      rw [List.length_append] at this
      simp only [List.length_cons, List.length_nil] at this
      omega
    subst this
    rw [List.drop_length, parts_slash] at inv
    have e : parts [] [] = ([] : List (List Nat)) := rfl
    rw [e, List.append_nil] at inv
    refine q p _ (same_new hp) hp ?_
    rw [upd_same, inv]
def sp__law_due (_K : Frag) : Sp := fun vs H Q _ => ∃ (x : Str) (tgt : Bool), vs = [.str x, .bl tgt] ∧ x.length ≤ 100000 ∧ ∀ H', Same H H' → Q (.str (due x.cps.toList tgt)) H'
abbrev N__law_due : List Str := ["_law_text_here", "_law_target", "_law_parts_here", "_law_part"]
def t__law_due (K : Frag) (E : XK) : TS :=
  (tSeq (tIfS (tTest (tOp (rI0 fun i j => V.bl (decide (j < i))) (tCB rLenS (tCons (tVar 0) tNil)) (tC (V.int 200)))) (tRet (tC (V.str "long"))) tNext) (tSeq (tIfS (tOr (tB (tCallG (sp__law_bad K) [] (WD E) (tCons (tVar 0) tNil))) (tOr (tAnd (tB (tVar 1)) (tTest (tOp rEq (tVar 0) (tC (V.str ""))))) (tAnd (tNot (tB (tVar 1))) (tTest (tOp rNe (tSl rSlS (tVar 0) tNoPart (tPart (tC (V.int 1)))) (tC (V.str "/"))))))) (tRet (tC (V.str "invalid"))) tNext) (tSeq (tAsg (tCallG (sp__law_parts K) [] (WD E) (tCons (tVar 0) tNil)) (gName 2)) (tSeq (tIfS (tAnd (tNot (tB (tVar 1))) (tOr (tTest (tOp (rI0 fun i j => V.bl (decide (j < i))) (tCB (rLenQ K) (tCons (tVar 2) tNil)) (tC (V.int 16)))) (tTest (tOp (rI0 fun i j => V.bl (decide (j < i))) (tCB (rLenQ K) (tCons (tLc (iList K (tVar 2)) (gName 3) (tTest (tOp (rI0 fun i j => V.bl (decide (j < i))) (tCB rLenS (tCons (tVar 3) tNil)) (tC (V.int 28)))) (tVar 3) [3]) tNil)) (tC (V.int 0)))))) (tRet (tC (V.str "long"))) tNext) (tRet (tC (V.str "")))))))
theorem len__law_due {K : Frag} {vs : List V} {H : Hp} {Q : VK} {E : XK} : sp__law_due K vs H Q E → vs.length = (["_law_text_here", "_law_target"] : List Str).length := by walk_at "len"
theorem pure__law_due {K : Frag} {vs : List V} {H : Hp} {Q : VK} {E : XK} (h : sp__law_due K vs H Q E) : t__law_due K E { nx := fun _ H' => Q .non H', rt := Q } (start N__law_due vs) H := by
  obtain ⟨x, tgt, rfl, hx, q⟩ := h
  have hl := len_tl x
  unfold t__law_due
  walk_at "go"
  refine g_lenS (by omega) ?_
  walk_at "go"
  refine g_it (fun c => ?_) (fun c => ?_)
  · walk_at "go"
    have := q H fun b o e => e
    unfold due at this
    rw [if_pos (by omega)] at this
    exact this
  · walk_at "go"
    refine ⟨x, rfl, ?_⟩
    walk_at "go"
    have q0 : ∀ H', Same H H' → ∀ s, due x.cps.toList tgt = s → Q (.str s) H' := fun H' S s e => by rw [← e]; exact q H' S
    have S0 : Same H H := fun b o e => e
    refine g_itb (fun c1 => ?_) (fun c1 => ?_)
    · walk_at "go"
      refine q0 H S0 _ ?_
      unfold due
      rw [if_neg (by omega), c1]
      rfl
    · walk_at "go"
      cases tgt with
      | true =>
        have dd : due x.cps.toList true = ((if x.cps.toList = [] then "invalid" else "") : Str) := by
          unfold due
          rw [if_neg (by omega), c1]
          by_cases z : x.cps.toList = []
          · rw [decide_eq_true z, if_pos z]; rfl
          · rw [decide_eq_false z, if_neg z]; rfl
        walk_at "go"
        refine g_it (fun c2 => ?_) (fun c2 => ?_)
        · walk_at "go"
          exact q0 H S0 _ (by rw [dd, if_pos (empty_tl.mp c2)])
        · walk_at "go"
          refine ⟨x, rfl, hx, fun p H1 S1 np hp => ?_⟩
          walk_at "go"
          exact q0 H1 S1 _ (by rw [dd, if_neg fun z => c2 (empty_tl.mpr z)])
      | false =>
        have dd : due x.cps.toList false = ((if ¬ x.cps.toList.take 1 = [47] then "invalid" else if long x.cps.toList = true then "long" else "") : Str) := by
          unfold due
          rw [if_neg (by omega), c1]
          by_cases z : x.cps.toList.take 1 = [47]
          · rw [decide_eq_true z, if_neg (show ¬ ¬ x.cps.toList.take 1 = [47] from fun w => w z)]; rfl
          · rw [decide_eq_false z, if_pos z]; rfl
        walk_at "go"
        refine g_slS (by omega) ?_
        walk_at "go"
        refine g_itn (fun c2 => ?_) (fun c2 => ?_)
        · walk_at "go"
          exact q0 H S0 _ (by rw [dd, if_pos fun z => c2 (cut1.mpr z)])
        · have ct := cut1.mp c2
          rw [if_neg (by simpa using ct)] at dd
          walk_at "go"
          refine ⟨x, rfl, hx, fun p H1 S1 np hp => ?_⟩
          walk_at "go"
          have pl : (pV (parts [] x.cps.toList)).length = (parts [] x.cps.toList).length := List.length_map _
          rw [pl]
          refine g_it (fun c3 => ?_) (fun c3 => ?_)
          · walk_at "go"
            exact q0 H1 S1 _ (by rw [dd, if_pos (by unfold long; rw [decide_eq_true (by omega)]; rfl)])
          · walk_at "go"
            refine l_lcL (SqL.of hp) (fun p : List Nat => if 28 < p.length then some (.str ⟨p.toArray⟩) else none) (by omega) (fun D v acc Nx hD hv hl' h0 h1 => ?_) fun D hD => ?_
            · have hp1 := parts_le _ _ _ hv
              simp only [List.length_nil, Nat.zero_add] at hp1
              have hp2 : (⟨v.toArray⟩ : Str).length = v.length := by simp [Str.length]
              walk_at "go"
              refine ⟨rfl, ?_⟩
              walk_at "go"
              refine g_lenS (by rw [hp2]; omega) ?_
              walk_at "go"
              refine g_it (fun c4 => ?_) (fun c4 => ?_)
              · walk_at "go"
                exact lc_fin hl' (h1 _ (if_pos (by rw [hp2] at c4; omega)))
              · walk_at "go"
                exact h0 (if_neg (by rw [hp2] at c4; omega))
            · walk_at "go"
              have ln : (0 < ((parts [] x.cps.toList).filterMap (fun p : List Nat => if 28 < p.length then some (V.str ⟨p.toArray⟩) else none)).length) ↔ (parts [] x.cps.toList).any (fun p => decide (28 < p.length)) = true := by
                generalize parts [] x.cps.toList = l
                induction l with
                | nil => simp
                | cons a l ih =>
                  rw [List.filterMap_cons, List.any_cons]
                  by_cases z : 28 < a.length
                  · simp [z]
                  · simp only [if_neg z, decide_eq_false z, Bool.false_or]
                    exact ih
              have hlg : long x.cps.toList = (parts [] x.cps.toList).any fun p => decide (28 < p.length) := by
                unfold long
                rw [decide_eq_false (by omega), Bool.false_or]
              have S02 : ∀ o, Same H (upd H1 D o) := fun o b u e => at_upd (ne_of_none (S1 b u e) hD) (S1 b u e)
              refine g_it (fun c4 => ?_) (fun c4 => ?_)
              · walk_at "go"
                exact q0 _ (S02 _) _ (by rw [dd, hlg, if_pos (ln.mp (by omega))])
              · walk_at "go"
                exact q0 _ (S02 _) _ (by rw [dd, hlg, if_neg fun z => c4 (by have := ln.mpr z; omega)])
/-! ### what is told -/
structure F54 (K : Frag) : Prop where
  mi : PySem.W.exmOne K (.ref (He.ga K "InvalidPath")) (.ref (He.ga K "SegmentError")) = some true
  ml : PySem.W.exmOne K (.ref (He.ga K "NameTooLong")) (.ref (He.ga K "SegmentError")) = some true
  ci : ExcC K (He.ga K "InvalidPath")
  cl : ExcC K (He.ga K "NameTooLong")
  ii : PySem.W.kitOne K (.ref (He.ga K "InvalidPath")) (.ref (He.ga K "InvalidPath")) = some true
  il : PySem.W.kitOne K (.ref (He.ga K "InvalidPath")) (.ref (He.ga K "NameTooLong")) = some false
  li : PySem.W.kitOne K (.ref (He.ga K "NameTooLong")) (.ref (He.ga K "InvalidPath")) = some false
  ll : PySem.W.kitOne K (.ref (He.ga K "NameTooLong")) (.ref (He.ga K "NameTooLong")) = some true
  vi : PySem.W.kitOne K (.ref (He.ga K "InvalidPath")) (.type "ValueError") = some true
  vl : PySem.W.kitOne K (.ref (He.ga K "NameTooLong")) (.type "ValueError") = some true
theorem g_isXT {K : Frag} {a : Addr} {H : Hp} {Q : VK} {C : String} {D : Addr} {r : Bool} (hE : ExcC K D) (hk : PySem.W.kitOne K (.ref D) (.type C) = some r) (q : Q (.bl r) H) : rIsX K a (.ref D) none [.ref a, .ty C] H Q :=
  ⟨D, rfl, rfl, hE, .ty C, .type C, r, rfl, fun u r => by cases r; rfl, hk, q⟩
def sp__law_told (K : Frag) : Sp := fun vs H Q _ => ∃ (x : Str) (tgt : Bool), vs = [.str x, .bl tgt] ∧ x.length ≤ 100000 ∧ 37 ∉ x.cps.toList ∧
  ∀ (q p : Addr) (ps : List (List Nat)) (c : Bool) H', Same H H' → H q = none → H p = none → H' q = some (.lst [.str (due x.cps.toList tgt), .ref p, .bl c]) → H' p = some (.lst (pV ps)) →
    (due x.cps.toList tgt = "" → ps = parts [] x.cps.toList ∧ c = (!tgt && closed x.cps.toList)) → Q (.ref q) H'
abbrev N__law_told : List Str := ["_law_text_here", "_law_target", "_law_path", "e", "_law_long"]
def t__law_told (K : Frag) (E : XK) : TS :=
  (tTryAs K (V2 (He.ga K "SegmentError")) 3 (fun a cls d => (tSeq (tAsg (tCB (rIsX K a cls d) (tCons (tVar 3) (tCons (tC (V.ref (He.ga K "NameTooLong"))) tNil))) (gName 4)) (tSeq (tIfS (tOr (tTest (tOp rEq (tVar 4) (tCB (rIsX K a cls d) (tCons (tVar 3) (tCons (tC (V.ref (He.ga K "InvalidPath"))) tNil))))) (tNot (tB (tCB (rIsX K a cls d) (tCons (tVar 3) (tCons (tC (V.ty "ValueError")) tNil)))))) (tRet (tLst (tCons (tC (V.str "wrong")) (tCons (tLst tNil) (tCons (tC (V.bl false)) tNil))))) tNext) (tRet (tLst (tCons (tOp (rIxL K) (tLst (tCons (tC (V.str "invalid")) (tCons (tC (V.str "long")) tNil))) (tCB rInt (tCons (tVar 4) tNil))) (tCons (tLst tNil) (tCons (tC (V.bl false)) tNil)))))))) (WD E) (fun W => (tSeq (tIfS (tB (tVar 1)) (tRet (tLst (tCons (tC (V.str "")) (tCons (tCallG (sp_read_target K) [] W (tCons (tVar 0) tNil)) (tCons (tC (V.bl false)) tNil))))) tNext) (tSeq (tAsg (tCallG (sp_read_path K) [] W (tCons (tVar 0) tNil)) (gName 2)) (tRet (tLst (tCons (tC (V.str "")) (tCons (tFldC (He.ga K "Path") (tVar 2) ("parts" : Str)) (tCons (tFldC (He.ga K "Path") (tVar 2) ("closed" : Str)) tNil)))))))))
theorem len__law_told {K : Frag} {vs : List V} {H : Hp} {Q : VK} {E : XK} : sp__law_told K vs H Q E → vs.length = (["_law_text_here", "_law_target"] : List Str).length := by walk_at "len"
theorem due_ways (l : List Nat) (t : Bool) : due l t = "long" ∨ due l t = "invalid" ∨ due l t = "" := by
  unfold due
  split
  · exact .inl rfl
  · split
    · exact .inr (.inl rfl)
    · split
      · exact .inl rfl
      · exact .inr (.inr rfl)
theorem pure__law_told {K : Frag} (F : F54 K) {vs : List V} {H : Hp} {Q : VK} {E : XK} (h : sp__law_told K vs H Q E) : t__law_told K E { nx := fun _ H' => Q .non H', rt := Q } (start N__law_told vs) H := by
  obtain ⟨x, tgt, rfl, hx, h37, kQ⟩ := h
  unfold t__law_told
  refine g_try ?_
  generalize hW : wAs K (V2 (He.ga K "SegmentError")) 3 _ _ _ = W
  have hi : ∀ H', Same H H' → due x.cps.toList tgt = "invalid" → W (.ref (He.ga K "InvalidPath")) none (start N__law_told [.str x, .bl tgt]) H' := by
    intro H' S ed
    rw [← hW]
    refine g_caught F.mi fun a na => ?_
    walk_at "go"
    refine g_isX F.ci F.il ?_
    walk_at "go"
    refine g_isX F.ci F.ii ?_
    walk_at "go"
    refine g_no rfl ?_
    walk_at "go"
    refine g_isXT F.ci F.vi ?_
    walk_at "go"
    refine g_newN (by simp) fun p1 n1 => ?_
    walk_at "go"
    refine g_ixL (n := 0) (v := .str "invalid") (by walk_at "sq") rfl rfl ?_
    walk_at "go"
    refine g_newN (by simp) fun p2 n2 => ?_
    walk_at "go"
    refine g_newN (by simp) fun p3 n3 => ?_
    have S2 := same_new2' (o := .lst [.str "invalid", .str "long"]) (u := .lst []) n1 n2
    have := kQ p3 p2 [] false _ (fun b o e => at_upd (ne_of_none (S2 b o (S b o e)) n3) (S2 b o (S b o e))) (S.free (fr2 n3)) (S.free (fr1 n2)) (by rw [ed]; exact upd_same) (at_upd (ne_of_none upd_same n3) upd_same) (fun z => by rw [ed] at z; cases z)
    exact this
  have hl : ∀ H', Same H H' → due x.cps.toList tgt = "long" → W (.ref (He.ga K "NameTooLong")) none (start N__law_told [.str x, .bl tgt]) H' := by
    intro H' S ed
    rw [← hW]
    refine g_caught F.ml fun a na => ?_
    walk_at "go"
    refine g_isX F.cl F.ll ?_
    walk_at "go"
    refine g_isX F.cl F.li ?_
    walk_at "go"
    refine g_no rfl ?_
    walk_at "go"
    refine g_isXT F.cl F.vl ?_
    walk_at "go"
    refine g_newN (by simp) fun p1 n1 => ?_
    walk_at "go"
    refine g_ixL (n := 1) (v := .str "long") (by walk_at "sq") rfl rfl ?_
    walk_at "go"
    refine g_newN (by simp) fun p2 n2 => ?_
    walk_at "go"
    refine g_newN (by simp) fun p3 n3 => ?_
    have S2 := same_new2' (o := .lst [.str "invalid", .str "long"]) (u := .lst []) n1 n2
    have := kQ p3 p2 [] false _ (fun b o e => at_upd (ne_of_none (S2 b o (S b o e)) n3) (S2 b o (S b o e))) (S.free (fr2 n3)) (S.free (fr1 n2)) (by rw [ed]; exact upd_same) (at_upd (ne_of_none upd_same n3) upd_same) (fun z => by rw [ed] at z; cases z)
    exact this
  clear hW
  walk_at "go"
  cases tgt with
  | true =>
    walk_at "go"
    refine ⟨x, rfl, hx, h37, hl, hi, fun p H1 S1 ed np hp => ?_⟩
    walk_at "go"
    refine g_newN (by simp) fun q nq => ?_
    exact kQ q p (parts [] x.cps.toList) false _ (fun b o e => at_upd (ne_of_none (S1 b o e) nq) (S1 b o e)) (S1.free nq) np (by rw [ed]; exact upd_same) (at_upd (ne_of_none hp nq) hp) (fun _ => ⟨rfl, rfl⟩)
  | false =>
    walk_at "go"
    refine ⟨x, rfl, hx, h37, hl, hi, fun a d p H1 S1 ed na np hp ha => ?_⟩
    have ha' : H1 a = some (.ins (He.ga K "Path") d [("parts", .ref p), ("closed", .bl (closed x.cps.toList))]) := ha
    walk_at "go"
    refine g_newN (by simp) fun q nq => ?_
    exact kQ q p (parts [] x.cps.toList) _ _ (fun b o e => at_upd (ne_of_none (S1 b o e) nq) (S1 b o e)) (S1.free nq) np (by rw [ed]; exact upd_same) (at_upd (ne_of_none hp nq) hp) (fun _ => ⟨rfl, rfl⟩)
/-- a text the law may ask about -/
def OkT (x : Str) : Prop := x.length ≤ 100000 ∧ ∀ c ∈ x.cps.toList, c ≠ 37 ∧ c < 1114112
theorem OkT.no {x : Str} (h : OkT x) : 37 ∉ x.cps.toList := fun m => (h.2 37 m).1 rfl
theorem strOk_of {l : List Nat} (h : ∀ c ∈ l, c < 1114112) : (PyData.str ⟨l.toArray⟩).canLay0 = true := by
  show (l.toArray).all (fun c => decide (c < 0x110000)) = true
  rw [← Array.all_toList]
  exact List.all_eq_true.mpr fun c hc => decide_eq_true (h c hc)
theorem parts_mem : ∀ (l cur p : List Nat) (c : Nat), p ∈ parts cur l → c ∈ p → c ∈ cur ∨ c ∈ l
  | [], cur, p, c, h, hc => by
    have h : p ∈ (if cur = [] then [] else [cur]) := h
    split at h
    · cases h
    · rw [List.mem_singleton.mp h] at hc; exact .inl hc
  | d :: l, cur, p, c, h, hc => by
    have h : p ∈ (if d = 47 then (if cur = [] then parts [] l else cur :: parts [] l) else parts (cur ++ [d]) l) := h
    have h1 : p ∈ parts [] l → c ∈ cur ∨ c ∈ d :: l := fun m => by
      rcases parts_mem l [] p c m hc with z | z
      · cases z
      · exact .inr (List.mem_cons_of_mem _ z)
    split at h
    · split at h
      · exact h1 h
      · rcases List.mem_cons.mp h with rfl | h
        · exact .inl hc
        · exact h1 h
    · rcases parts_mem l _ p c h hc with z | z
      · rcases List.mem_append.mp z with z | z
        · exact .inl z
        · exact .inr (by rw [List.mem_singleton.mp z]; simp)
      · exact .inr (List.mem_cons_of_mem _ z)
def pD (ps : List (List Nat)) : PyData := .list (ps.map fun p => .str ⟨p.toArray⟩)
theorem dp_parts {K : Frag} {H : Hp} {p : Addr} : ∀ {ps : List (List Nat)}, H p = some (.lst (pV ps)) → Dp K H (.ref p) (pD ps) := by
  intro ps h
  refine .lst (SqL.of h) ?_
  clear h
  unfold pV
  induction ps with
  | nil => exact .nil
  | cons a ps ih => exact .cons (.str _) ih
theorem fine_parts {ps : List (List Nat)} (h : ∀ p ∈ ps, ∀ c ∈ p, c < 1114112) : Fine 1 (pD ps) := fine_list fun d hd => by
  obtain ⟨p, hp, rfl⟩ := List.mem_map.mp hd
  exact fine_str (strOk_of (h p hp))
def sp__law_agrees (_K : Frag) : Sp := fun vs H Q _ => ∃ (x : Str) (tgt : Bool), vs = [.str x, .bl tgt] ∧ OkT x ∧ ∀ H', Same H H' → Q (.bl true) H'
abbrev N__law_agrees : List Str := ["_law_text_here", "_law_target", "_law_due_here", "_law_told_here", "_law_parts_here", "_law_closed"]
def t__law_agrees (K : Frag) (E : XK) : TS :=
  (tSeq (tAsg (tCallG (sp__law_due K) [] (WD E) (tCons (tVar 0) (tCons (tVar 1) tNil))) (gName 2)) (tSeq (tAsg (tCallG (sp__law_told K) [] (WD E) (tCons (tVar 0) (tCons (tVar 1) tNil))) (gName 3)) (tSeq (tIfS (tTest (tOp rNe (tOp (rIxL K) (tVar 3) (tC (V.int 0))) (tVar 2))) (tRet (tC (V.bl false))) tNext) (tSeq (tIfS (tTest (tOp rNe (tVar 2) (tC (V.str "")))) (tRet (tC (V.bl true))) tNext) (tSeq (tAsg (tCallG (sp__law_parts K) [] (WD E) (tCons (tVar 0) tNil)) (gName 4)) (tCutG (tAsg (tAndV (tNotV (tVar 1)) (tAndV (tOp (rI0 fun i j => V.bl (decide (j < i))) (tCB (rLenQ K) (tCons (tVar 4) tNil)) (tC (V.int 0))) (tOp rEq (tOp rIxS (tVar 0) (tUn (rU fun i => V.int (-i)) (tC (V.int 1)))) (tC (V.str "/"))))) (gName 5)) (tRet (tAndV (tCB (rIsi K) (tCons (tOp (rIxL K) (tVar 3) (tC (V.int 1))) (tCons (tC (V.ty "list")) tNil))) (tAndV (tOp (rEqD K) (tOp (rIxL K) (tVar 3) (tC (V.int 1))) (tVar 4)) (tAndV (tCB (rIsi K) (tCons (tOp (rIxL K) (tVar 3) (tC (V.int 2))) (tCons (tC (V.ty "bool")) tNil))) (tOp rEq (tOp (rIxL K) (tVar 3) (tC (V.int 2))) (tVar 5))))))))))))
theorem len__law_agrees {K : Frag} {vs : List V} {H : Hp} {Q : VK} {E : XK} : sp__law_agrees K vs H Q E → vs.length = (["_law_text_here", "_law_target"] : List Str).length := by walk_at "len"
theorem pure__law_agrees {K : Frag} {vs : List V} {H : Hp} {Q : VK} {E : XK} (h : sp__law_agrees K vs H Q E) : t__law_agrees K E { nx := fun _ H' => Q .non H', rt := Q } (start N__law_agrees vs) H := by
  obtain ⟨x, tgt, rfl, ok, kQ⟩ := h
  unfold t__law_agrees
  walk_at "go"
  refine ⟨x, tgt, rfl, ok.1, fun H1 S1 => ?_⟩
  walk_at "go"
  refine ⟨x, tgt, rfl, ok.1, ok.no, fun q p ps c H2 S2 nq np hq hp hd => ?_⟩
  walk_at "go"
  have S02 : Same H H2 := fun b o e => S2 b o (S1 b o e)
  refine g_ixL (n := 0) (SqL.of hq) rfl rfl ?_
  walk_at "go"
  rw [decide_eq_true rfl, Bool.not_true]
  walk_at "go"
  refine g_itn (fun c1 => ?_) (fun c1 => ?_)
  · walk_at "go"
    exact kQ H2 S02
  · obtain ⟨rfl, rfl⟩ := hd c1
    walk_at "go"
    refine ⟨x, rfl, ok.1, fun p2 H3 S3 np2 hp2 => ?_⟩
    walk_at "go"
    have S03 : Same H H3 := fun b o e => S3 b o (S02 b o e)
    have pl : (pV (parts [] x.cps.toList)).length = (parts [] x.cps.toList).length := List.length_map _
    refine g_cut (fun σ H4 => H4 = H3 ∧ σ = [some (.str x), some (.bl tgt), some (.str (due x.cps.toList tgt)), some (.ref q), some (.ref p2), some (.bl (!tgt && closed x.cps.toList))]) ?_ ?_
    · walk_at "go"
      cases tgt with
      | true =>
        walk_at "go"
        exact ⟨rfl, rfl⟩
      | false =>
        walk_at "go"
        rw [pl]
        refine g_it (fun c5 => ?_) (fun c5 => ?_)
        · walk_at "go"
          have nl : x.cps.toList ≠ [] := fun z => by rw [z] at c5; exact absurd c5 (by decide)
          refine g_ixS (by have := ok.1; omega) (last_at nl) ?_
          walk_at "go"
          rw [decide_eq_decide.mpr one_slash]
          refine ⟨rfl, ?_⟩
          unfold closed
          rw [decide_eq_true (show 0 < (parts [] x.cps.toList).length by omega), Bool.true_and]
          rfl
        · walk_at "go"
          refine ⟨rfl, ?_⟩
          unfold closed
          rw [decide_eq_false (show ¬ 0 < (parts [] x.cps.toList).length by omega), Bool.false_and]
          rfl
    · rintro σ H4 ⟨rfl, rfl⟩
      have hq' := S3 _ _ hq
      have hp' := S3 _ _ hp
      walk_at "go"
      refine g_ixL (n := 1) (SqL.of hq') rfl rfl ?_
      walk_at "go"
      refine g_isLst hp' ?_
      walk_at "go"
      refine g_ixL (n := 1) (SqL.of hq') rfl rfl ?_
      walk_at "go"
      refine g_eqD (dp_parts hp') (dp_parts hp2) (fine_parts fun p hp c hc => ?_) ?_
      · rcases parts_mem _ _ _ c hp hc with z | z
        · cases z
        · exact (ok.2 c z).2
      walk_at "go"
      refine g_ixL (n := 2) (SqL.of hq') rfl rfl ?_
      walk_at "go"
      refine g_isBl ?_
      walk_at "go"
      refine g_ixL (n := 2) (SqL.of hq') rfl rfl ?_
      walk_at "go"
      rw [decide_eq_true rfl]
      exact kQ _ S03
open PySem PySem.Spec L2
/-! ### texts that are drawn -/
def OkC (c : Nat) : Prop := c ≠ 37 ∧ c < 1114112
def OkN (n : Nat) (x : Str) : Prop := x.length ≤ n ∧ ∀ c ∈ x.cps.toList, OkC c
theorem OkN.okT {n : Nat} {x : Str} (h : OkN n x) (hn : n ≤ 100000) : OkT x := ⟨Nat.le_trans h.1 hn, h.2⟩
theorem OkN.mono {n m : Nat} {x : Str} (h : OkN n x) (hn : n ≤ m) : OkN m x := ⟨Nat.le_trans h.1 hn, h.2⟩
theorem okB {n : Nat} {x : Str} (h : (decide (x.length ≤ n) && x.cps.toList.all fun c => !decide (c = 37) && decide (c < 1114112)) = true) : OkN n x := by
  rw [Bool.and_eq_true] at h
  refine ⟨of_decide_eq_true h.1, fun c hc => ?_⟩
  have := List.all_eq_true.mp h.2 c hc
  rw [Bool.and_eq_true] at this
  exact ⟨by simpa using this.1, of_decide_eq_true this.2⟩
theorem OkN.cat {n m : Nat} {x y : Str} (h : OkN n x) (k : OkN m y) : OkN (n + m) (x ++ y) := by
  refine ⟨?_, fun c hc => ?_⟩
  · rw [len_tl, cat_tl, List.length_append, ← len_tl, ← len_tl]
    exact Nat.add_le_add h.1 k.1
  · rw [cat_tl] at hc
    rcases List.mem_append.mp hc with z | z
    · exact h.2 c z
    · exact k.2 c z
theorem OkN.one {c : Nat} (h : OkC c) : OkN 1 ⟨#[c]⟩ := ⟨Nat.le_refl _, fun d hd => by simp at hd; subst hd; exact h⟩
theorem OkN.cut {n : Nat} {x : Str} {lo hi : Option Int} (h : OkN n x) : OkN n (cutS x lo hi) := by
  refine ⟨?_, fun c hc => h.2 c ?_⟩
  · rw [len_tl]
    show (List.take _ (List.drop _ x.cps.toList)).length ≤ n
    rw [List.length_take, List.length_drop, ← len_tl]
    have := h.1
    omega
  · exact List.mem_of_mem_drop (List.mem_of_mem_take hc)
theorem flat_len (l : List Nat) : ∀ k, (List.replicate k l).flatten.length = k * l.length
  | 0 => by simp
  | k + 1 => by rw [List.replicate_succ, List.flatten_cons, List.length_append, flat_len l k, Nat.succ_mul, Nat.add_comm]
theorem OkN.rep {n : Nat} {x : Str} {k : Int} (h : OkN n x) : OkN (n * k.toNat) (repS x k) := by
  refine ⟨?_, fun c hc => ?_⟩
  · rw [len_tl]
    show (List.flatten (List.replicate k.toNat x.cps.toList)).length ≤ _
    rw [flat_len, ← len_tl, Nat.mul_comm]
    exact Nat.mul_le_mul_right _ h.1
  · have hc : c ∈ List.flatten (List.replicate k.toNat x.cps.toList) := hc
    obtain ⟨l, hl, hcl⟩ := List.mem_flatten.mp hc
    rw [(List.mem_replicate.mp hl).2] at hcl
    exact h.2 c hcl
theorem fold_mem {P : Nat → Prop} (g : Array Nat) (hg : ∀ c ∈ g.toList, P c) : ∀ (ps : List Str) (acc : Array Nat), (∀ c ∈ acc.toList, P c) → (∀ p ∈ ps, ∀ c ∈ p.cps.toList, P c) → ∀ c ∈ (ps.foldl (fun acc p => acc ++ g ++ p.cps) acc).toList, P c
  | [], acc, h, _ => h
  | p :: ps, acc, h, hp => fold_mem g hg ps _ (fun c hc => by
      rw [Array.toList_append, Array.toList_append] at hc
      rcases List.mem_append.mp hc with z | z
      · rcases List.mem_append.mp z with z | z
        · exact h c z
        · exact hg c z
      · exact hp p (by simp) c z) fun q hq => hp q (by simp [hq])
theorem OkN.repl {n : Nat} {x y z : Str} (h : OkN n x) (k : OkN 1 z) : OkN (2 * n + 1) (Txt.replace x y z) := by
  refine ⟨?_, ?_⟩
  · have h1 := TK.replace_len x y z
    have h2 := h.1
    have h3 : (x.length + 1) * z.length ≤ (x.length + 1) * 1 := Nat.mul_le_mul_left _ k.1
    omega
  · unfold Txt.replace
    split
    · exact h.2
    · unfold Builtin.Str.glued
      have pm : ∀ p ∈ Builtin.Str.partsBetween x (Builtin.Str.occurrences x y 0 x.length (x.length + 1)) y.length, ∀ c ∈ p.cps.toList, OkC c := by
        intro p hp c hc
        unfold Builtin.Str.partsBetween at hp
        obtain ⟨⟨i, j⟩, _, rfl⟩ := List.mem_map.mp hp
        have hc : c ∈ (x.cps.extract i j).toList := hc
        rw [Array.toList_extract, List.extract_eq_drop_take] at hc
        exact h.2 c (List.mem_of_mem_drop (List.mem_of_mem_take hc))
      refine fold_mem (P := OkC) z.cps k.2 _ _ ?_ fun p hp => pm p (List.mem_of_mem_drop hp)
      generalize Builtin.Str.partsBetween x (Builtin.Str.occurrences x y 0 x.length (x.length + 1)) y.length = ps at pm
      cases ps with
      | nil => intro c hc; cases hc
      | cons p ps => exact pm p (by simp)
def sp__law_char (_K : Frag) : Sp := fun vs H Q _ => ∃ n : Int, vs = [.int n] ∧ ∀ c : Nat, OkC c → Q (.str ⟨#[c]⟩) H
abbrev N__law_char : List Str := ["_law_number", "_law_chars"]
def t__law_char (K : Frag) (E : XK) : TS :=
  (tSeq (tAsg (tC (V.str " !\"#$&'()*+,-./0123456789:;<=>?@ABCDEFGHIJKLMNOPQRSTUVWXYZ[\\]^_`")) (gName 1)) (tSeq (tAsg (tOp rAddSt (tVar 1) (tC (V.str "abcdefghijklmnopqrstuvwxyz{|}~"))) (gName 1)) (tRet (tOp rIxS (tVar 1) (tOp (rI (fun _ j => 0 < j) fun i j => V.int (i % j)) (tCB rInt (tCons (tVar 0) tNil)) (tC (V.int 94)))))))
theorem len__law_char {K : Frag} {vs : List V} {H : Hp} {Q : VK} {E : XK} : sp__law_char K vs H Q E → vs.length = (["_law_number"] : List Str).length := by walk_at "len"
theorem pure__law_char {K : Frag} {vs : List V} {H : Hp} {Q : VK} {E : XK} (h : sp__law_char K vs H Q E) : t__law_char K E { nx := fun _ H' => Q .non H', rt := Q } (start N__law_char vs) H := by
  obtain ⟨n, rfl, kQ⟩ := h
  unfold t__law_char
  walk_at "go"
  generalize hz : ((" !\"#$&'()*+,-./0123456789:;<=>?@ABCDEFGHIJKLMNOPQRSTUVWXYZ[\\]^_`" : Str) ++ ("abcdefghijklmnopqrstuvwxyz{|}~" : Str)) = z
  have hl : z.cps.toList.length = 94 := by subst hz; decide +kernel
  have hc : OkN 94 z := by subst hz; exact okB (by decide +kernel)
  obtain ⟨m, hm⟩ : ∃ m : Nat, n % 94 = m := ⟨(n % 94).toNat, by omega⟩
  have hm2 : m < z.cps.toList.length := by omega
  rw [hm]
  refine g_ixS (by rw [len_tl]; omega) (atI_nat (List.getElem?_eq_getElem hm2)) ?_
  exact kQ _ (hc.2 _ (List.getElem_mem hm2))
def sp__law_text (_K : Frag) : Sp := fun vs H Q _ => ∃ n k : Int, vs = [.int n, .int k] ∧ 0 ≤ k ∧ k ≤ 29 ∧ ∀ x : Str, OkN 29 x → Q (.str x) H
abbrev N__law_text : List Str := ["_law_number", "_law_count", "_law_text_here", "_law_k"]
def t__law_text (K : Frag) (E : XK) : TS :=
  (tSeq (tAsg (tC (V.str "")) (gName 2)) (tSeq (tAsg (tCB rInt (tCons (tVar 0) tNil)) (gName 0)) (tSeq (tFor (iRng1 (tCons (tVar 1) tNil)) (gName 3) (tSeq (tAsg (tOp rAddSt (tVar 2) (tCallG (sp__law_char K) [] (WD E) (tCons (tOp (rI CDiv fun i j => V.int (i / j)) (tVar 0) (tC (V.int 3))) tNil))) (gName 2)) (tIfS (tTest (tOp (rI0 fun i j => V.bl (decide (i < j))) (tOp (rI (fun _ j => 0 < j) fun i j => V.int (i % j)) (tVar 3) (tC (V.int 5))) (tC (V.int 4)))) (tAsg (tOp (rI CDiv fun i j => V.int (i / j)) (tVar 0) (tC (V.int 94))) (gName 0)) (tAsg (tOp (rI0 fun i j => V.int (i + j)) (tOp (rI CMul fun i j => V.int (i * j)) (tVar 0) (tC (V.int 48271))) (tVar 3)) (gName 0))))) (tRet (tVar 2)))))
theorem len__law_text {K : Frag} {vs : List V} {H : Hp} {Q : VK} {E : XK} : sp__law_text K vs H Q E → vs.length = (["_law_number", "_law_count"] : List Str).length := by walk_at "len"
theorem pure__law_text {K : Frag} {vs : List V} {H : Hp} {Q : VK} {E : XK} (h : sp__law_text K vs H Q E) : t__law_text K E { nx := fun _ H' => Q .non H', rt := Q } (start N__law_text vs) H := by
  obtain ⟨n, k, rfl, k0, k1, kQ⟩ := h
  unfold t__law_text
  walk_at "go"
  refine l_rng1 (fun i σ H' => H' = H ∧ ∃ (m : Int) (x : Str) (v : Option V), OkN i x ∧ σ = [some (.int m), some (.int k), some (.str x), v]) (by omega) ⟨rfl, n, "", none, okB (by decide +kernel), rfl⟩ ?_ ?_
  · rintro i σ H' hi ⟨rfl, m, x, v, ok, rfl⟩
    walk_at "go"
    refine ⟨m / 3, rfl, fun c hc => ?_⟩
    walk_at "go"
    refine g_addSt (by have := ok.1; show x.length + 1 ≤ _; omega) ?_
    walk_at "go"
    have ok2 : OkN (i + 1) (x ++ ⟨#[c]⟩) := ok.cat (OkN.one hc)
    refine g_it (fun c1 => ?_) (fun c1 => ?_)
    · walk_at "go"
      exact ⟨rfl, _, _, _, ok2, rfl⟩
    · walk_at "go"
      exact ⟨rfl, _, _, _, ok2, rfl⟩
  · rintro σ H' ⟨rfl, m, x, v, ok, rfl⟩
    walk_at "go"
    exact kQ x (ok.mono (by omega))
def sp__law_string (K : Frag) : Sp := fun vs H Q _ => ∃ (a : Addr) (ns : List Int) (k : Int), vs = [.ref a, .int k] ∧ SqL K H a (ns.map V.int) ∧ 0 ≤ k ∧ ∀ x H', Same H H' → OkN 10000 x → Q (.str x) H'
abbrev N__law_string : List Str := ["_law_script", "_law_k", "_law_number", "_law_rest", "_law_text_here", "_law_j", "_law_word", "_law_at"]
def t__law_string (K : Frag) (E : XK) : TS :=
  (tSeq (tAsg (tCallG (sp__law_row K) [] (WD E) (tCons (tVar 0) (tCons (tVar 1) tNil))) (gName 2)) (tSeq (tAsg (tOp (rI CDiv fun i j => V.int (i / j)) (tCB rInt (tCons (tVar 2) tNil)) (tC (V.int 60))) (gName 3)) (tSeq (tAsg (tC (V.str "")) (gName 4)) (tSeq (tFor (iRng1 (tCons (tOp (rIxL K) (tLst (tCons (tOp (rI (fun _ j => 0 < j) fun i j => V.int (i % j)) (tCB rInt (tCons (tVar 2) tNil)) (tC (V.int 19))) (tCons (tOp (rI (fun _ j => 0 < j) fun i j => V.int (i % j)) (tCB rInt (tCons (tVar 2) tNil)) (tC (V.int 4))) (tCons (tC (V.int 16)) (tCons (tC (V.int 17)) tNil))))) (tOp (rI (fun _ j => 0 < j) fun i j => V.int (i % j)) (tOp (rI CDiv fun i j => V.int (i / j)) (tCB rInt (tCons (tVar 2) tNil)) (tC (V.int 19))) (tC (V.int 4)))) tNil)) (gName 5) (tSeq (tAsg (tCallG (sp__law_text K) [] (WD E) (tCons (tVar 3) (tCons (tOp (rIxL K) (tLst (tCons (tC (V.int 1)) (tCons (tOp (rI0 fun i j => V.int (i + j)) (tC (V.int 1)) (tOp (rI (fun _ j => 0 < j) fun i j => V.int (i % j)) (tVar 3) (tC (V.int 5)))) (tCons (tC (V.int 28)) (tCons (tC (V.int 29)) tNil))))) (tOp (rIxL K) (tLst (tCons (tC (V.int 0)) (tCons (tC (V.int 0)) (tCons (tC (V.int 0)) (tCons (tC (V.int 1)) (tCons (tC (V.int 1)) (tCons (tC (V.int 1)) (tCons (tC (V.int 1)) (tCons (tC (V.int 2)) (tCons (tC (V.int 2)) (tCons (tC (V.int 2)) (tCons (tC (V.int 3)) tNil)))))))))))) (tOp (rI (fun _ j => 0 < j) fun i j => V.int (i % j)) (tVar 3) (tC (V.int 11))))) tNil))) (gName 6)) (tSeq (tAsg (tOp rAddSt (tOp rAddSt (tVar 4) (tOp rRepS (tC (V.str "/")) (tOp (rI0 fun i j => V.int (i + j)) (tC (V.int 1)) (tCB rInt (tCons (tOp rEq (tOp (rI (fun _ j => 0 < j) fun i j => V.int (i % j)) (tVar 3) (tC (V.int 9))) (tC (V.int 2))) tNil))))) (tRepl (tVar 6) "/" "_")) (gName 4)) (tAsg (tOp (rI0 fun i j => V.int (i + j)) (tOp (rI CDiv fun i j => V.int (i / j)) (tVar 3) (tC (V.int 11))) (tOp (rI CMul fun i j => V.int (i * j)) (tC (V.int 31)) (tVar 5))) (gName 3))))) (tCutG (tIfS (tTest (tOp rEq (tOp (rI (fun _ j => 0 < j) fun i j => V.int (i % j)) (tOp (rI CDiv fun i j => V.int (i / j)) (tCB rInt (tCons (tVar 2) tNil)) (tC (V.int 76))) (tC (V.int 5))) (tC (V.int 0)))) (tAsg (tSl rSlS (tVar 4) (tPart (tC (V.int 1))) tNoPart) (gName 4)) tNext) (tCutG (tIfS (tTest (tOp rEq (tOp (rI (fun _ j => 0 < j) fun i j => V.int (i % j)) (tOp (rI CDiv fun i j => V.int (i / j)) (tCB rInt (tCons (tVar 2) tNil)) (tC (V.int 76))) (tC (V.int 3))) (tC (V.int 0)))) (tAsg (tOp rAddSt (tVar 4) (tC (V.str "/"))) (gName 4)) tNext) (tCutG (tIfS (tTest (tOp rEq (tOp (rI (fun _ j => 0 < j) fun i j => V.int (i % j)) (tOp (rI CDiv fun i j => V.int (i / j)) (tCB rInt (tCons (tVar 2) tNil)) (tC (V.int 76))) (tC (V.int 7))) (tC (V.int 3)))) (tSeq (tAsg (tOp (rI (fun _ j => 0 < j) fun i j => V.int (i % j)) (tVar 3) (tOp (rI0 fun i j => V.int (i + j)) (tCB rLenS (tCons (tVar 4) tNil)) (tC (V.int 1)))) (gName 7)) (tAsg (tOp rAddSt (tOp rAddSt (tSl rSlS (tVar 4) tNoPart (tPart (tVar 7))) (tOp rIxS (tC (V.str "\n\t")) (tOp (rI (fun _ j => 0 < j) fun i j => V.int (i % j)) (tOp (rI CDiv fun i j => V.int (i / j)) (tVar 3) (tC (V.int 7))) (tC (V.int 2))))) (tSl rSlS (tVar 4) (tPart (tVar 7)) tNoPart)) (gName 4))) tNext) (tCutG (tIfS (tTest (tOp rEq (tOp (rI (fun _ j => 0 < j) fun i j => V.int (i % j)) (tOp (rI CDiv fun i j => V.int (i / j)) (tCB rInt (tCons (tVar 2) tNil)) (tC (V.int 76))) (tC (V.int 11))) (tC (V.int 5)))) (tSeq (tAsg (tOp rAddSt (tOp rRepS (tC (V.str "/a")) (tC (V.int 100))) (tSl rSlS (tC (V.str "/bc")) tNoPart (tPart (tOp (rI (fun _ j => 0 < j) fun i j => V.int (i % j)) (tVar 3) (tC (V.int 3)))))) (gName 4)) (tAsg (tSl rSlS (tVar 4) tNoPart (tPart (tOp (rI0 fun i j => V.int (i + j)) (tC (V.int 199)) (tOp (rI (fun _ j => 0 < j) fun i j => V.int (i % j)) (tOp (rI CDiv fun i j => V.int (i / j)) (tVar 3) (tC (V.int 3))) (tC (V.int 4)))))) (gName 4))) tNext) (tRet (tVar 4))))))))))
theorem len__law_string {K : Frag} {vs : List V} {H : Hp} {Q : VK} {E : XK} : sp__law_string K vs H Q E → vs.length = (["_law_script", "_law_k"] : List Str).length := by walk_at "len"
theorem pure__law_string {K : Frag} {vs : List V} {H : Hp} {Q : VK} {E : XK} (h : sp__law_string K vs H Q E) : t__law_string K E { nx := fun _ H' => Q .non H', rt := Q } (start N__law_string vs) H := by
  obtain ⟨a, ns, k, rfl, hS, hk, kQ⟩ := h
  unfold t__law_string
  walk_at "go"
  refine ⟨a, ns, k, rfl, hS, hk, fun n hn => ?_⟩
  walk_at "go"
  refine g_newN (by simp) fun p1 n1 => ?_
  walk_at "go"
  refine g_ixP (fun v => ∃ z, v = .int z ∧ 0 ≤ z ∧ z ≤ 18) (SqL.of upd_same) (by
    intro v hv
    simp only [List.mem_cons, List.not_mem_nil, or_false] at hv
    rcases hv with rfl | rfl | rfl | rfl <;> exact ⟨_, rfl, by omega, by omega⟩) (by omega) (by simp only [List.length_cons, List.length_nil]; omega) fun v hv => ?_
  obtain ⟨m, rfl, m0, m1⟩ := hv
  walk_at "go"
  generalize n / 60 = r0
  have S1 : Same H (upd H p1 _) := same_new (o := .lst [.int (n % 19), .int (n % 4), .int 16, .int 17]) n1
  generalize upd H p1 _ = H1 at S1 ⊢
  refine l_rng1 (fun i σ H' => Same H H' ∧ ∃ (r : Int) (x : Str) (v5 v6 v7 : Option V), OkN (61 * i) x ∧ σ = [some (.ref a), some (.int k), some (.int n), some (.int r), some (.str x), v5, v6, v7]) (by omega) ⟨S1, r0, "", none, none, none, okB (by decide +kernel), rfl⟩ ?_ ?_
  · rintro i σ H' hi ⟨S, r, x, v5, v6, v7, ok, rfl⟩
    walk_at "go"
    refine g_newN (by simp) fun q1 m1 => ?_
    walk_at "go"
    refine g_newN (by simp) fun q2 m2 => ?_
    walk_at "go"
    refine g_ixP (fun v => ∃ z, v = .int z ∧ 0 ≤ z ∧ z < 4) (SqL.of upd_same) (by
      intro v hv
      simp only [List.mem_cons, List.not_mem_nil, or_false] at hv
      rcases hv with rfl | rfl | rfl | rfl | rfl | rfl | rfl | rfl | rfl | rfl | rfl <;> exact ⟨_, rfl, by omega, by omega⟩) (by omega) (by simp only [List.length_cons, List.length_nil]; omega) fun v hv => ?_
    obtain ⟨z, rfl, z0, z1⟩ := hv
    walk_at "go"
    refine g_ixP (fun v => ∃ z, v = .int z ∧ 0 ≤ z ∧ z ≤ 29) (SqL.of (at_upd (nu1 m2).symm upd_same)) (by
      intro v hv
      simp only [List.mem_cons, List.not_mem_nil, or_false] at hv
      rcases hv with rfl | rfl | rfl | rfl <;> exact ⟨_, rfl, by omega, by omega⟩) z0 (by simp only [List.length_cons, List.length_nil]; omega) fun v hv => ?_
    obtain ⟨u, rfl, u0, u1⟩ := hv
    walk_at "go"
    refine ⟨r, u, rfl, u0, u1, fun w okw => ?_⟩
    walk_at "go"
    have hb : ∀ b : Bool, (0 : Int) ≤ (1 + if b = true then 1 else 0) ∧ (1 + if b = true then 1 else 0) ≤ (2 : Int) := by intro b; cases b <;> decide
    obtain ⟨t, ht, t0, t2⟩ : ∃ t : Int, (1 + if decide (r % 9 = 2) = true then 1 else 0) = t ∧ 0 ≤ t ∧ t ≤ 2 := ⟨_, rfl, (hb _).1, (hb _).2⟩
    rw [ht]
    have o1 : OkN 2 (repS "/" t) := (OkN.rep (n := 1) (okB (by decide +kernel))).mono (by omega)
    have o2 : OkN 59 (Txt.replace w "/" "_") := OkN.repl okw (okB (by decide +kernel))
    have o3 := (ok.cat o1).cat o2
    refine g_repS t0 (by omega) (by show 1 * t.toNat ≤ _; omega) ?_
    walk_at "go"
    refine g_addSt (by have := ok.1; have := o1.1; omega) ?_
    walk_at "go"
    refine ⟨w, rfl, by have := okw.1; show w.length + (w.length + 1) * 1 ≤ _; omega, ?_⟩
    walk_at "go"
    refine g_addSt (by have := (ok.cat o1).1; have := o2.1; omega) ?_
    walk_at "go"
    exact ⟨fun b o e => same_new2' m1 m2 b o (S b o e), _, _, _, _, _, o3.mono (by omega), rfl⟩
  · rintro σ H' ⟨S, r, x, v5, v6, v7, ok, rfl⟩
    have ok0 : OkN 2000 x := ok.mono (by omega)
    clear ok
    refine g_cut (fun σ H2 => H2 = H' ∧ ∃ (x : Str) (v5 v6 v7 : Option V), OkN 2000 x ∧ σ = [some (.ref a), some (.int k), some (.int n), some (.int r), some (.str x), v5, v6, v7]) ?_ ?_
    · walk_at "go"
      refine g_it (fun c => ?_) (fun c => ?_)
      · walk_at "go"
        refine g_slS (by have := ok0.1; omega) ?_
        walk_at "go"
        exact ⟨rfl, _, _, _, _, ok0.cut, rfl⟩
      · walk_at "go"
        exact ⟨rfl, _, _, _, _, ok0, rfl⟩
    clear ok0 x v5 v6 v7
    rintro σ H2 ⟨rfl, x, v5, v6, v7, ok, rfl⟩
    refine g_cut (fun σ H3 => H3 = H2 ∧ ∃ (x : Str) (v5 v6 v7 : Option V), OkN 2001 x ∧ σ = [some (.ref a), some (.int k), some (.int n), some (.int r), some (.str x), v5, v6, v7]) ?_ ?_
    · walk_at "go"
      refine g_it (fun c => ?_) (fun c => ?_)
      · walk_at "go"
        refine g_addSt (by have := ok.1; show x.length + 1 ≤ _; omega) ?_
        walk_at "go"
        exact ⟨rfl, _, _, _, _, ok.cat (m := 1) (okB (by decide +kernel)), rfl⟩
      · walk_at "go"
        exact ⟨rfl, _, _, _, _, ok.mono (by omega), rfl⟩
    clear ok x v5 v6 v7
    rintro σ H3 ⟨rfl, x, v5, v6, v7, ok, rfl⟩
    refine g_cut (fun σ H4 => H4 = H3 ∧ ∃ (x : Str) (v5 v6 v7 : Option V), OkN 5000 x ∧ σ = [some (.ref a), some (.int k), some (.int n), some (.int r), some (.str x), v5, v6, v7]) ?_ ?_
    · walk_at "go"
      refine g_it (fun c => ?_) (fun c => ?_)
      · walk_at "go"
        refine g_lenS (by have := ok.1; omega) ?_
        walk_at "go"
        have at0 : 0 ≤ r % ((x.length : Int) + 1) := Int.emod_nonneg _ (by omega)
        generalize r % ((x.length : Int) + 1) = at' at at0
        refine g_slS (by have := ok.1; omega) ?_
        walk_at "go"
        obtain ⟨b, hb⟩ : ∃ b : Nat, r / 7 % 2 = b := ⟨(r / 7 % 2).toNat, by omega⟩
        have hb2 : b < ("\n\t" : Str).cps.toList.length := by
          have : ("\n\t" : Str).cps.toList.length = 2 := by decide +kernel
          omega
        rw [hb]
        have hc : OkN 2 ("\n\t" : Str) := okB (by decide +kernel)
        refine g_ixS (by decide +kernel) (atI_nat (List.getElem?_eq_getElem hb2)) ?_
        walk_at "go"
        have o1 : OkN 2001 (cutS x none (some at')) := ok.cut
        have o2 := o1.cat (OkN.one (hc.2 _ (List.getElem_mem hb2)))
        refine g_addSt (by have := o1.1; show _ + 1 ≤ _; omega) ?_
        walk_at "go"
        refine g_slS (by have := ok.1; omega) ?_
        walk_at "go"
        have o3 : OkN 2001 (cutS x (some at') none) := ok.cut
        refine g_addSt (by have := o2.1; have := o3.1; omega) ?_
        walk_at "go"
        exact ⟨rfl, _, _, _, _, (o2.cat o3).mono (by omega), rfl⟩
      · walk_at "go"
        exact ⟨rfl, _, _, _, _, ok.mono (by omega), rfl⟩
    clear ok x v5 v6 v7
    rintro σ H4 ⟨rfl, x, v5, v6, v7, ok, rfl⟩
    refine g_cut (fun σ H5 => H5 = H4 ∧ ∃ (x : Str) (v5 v6 v7 : Option V), OkN 10000 x ∧ σ = [some (.ref a), some (.int k), some (.int n), some (.int r), some (.str x), v5, v6, v7]) ?_ ?_
    · walk_at "go"
      refine g_it (fun c => ?_) (fun c => ?_)
      · walk_at "go"
        refine g_slS (by decide +kernel) ?_
        walk_at "go"
        have h3 : OkN 3 (cutS "/bc" none (some (r % 3))) := OkN.cut (okB (by decide +kernel))
        have h5 : (repS "/a" 100).length = 200 := by decide +kernel
        refine g_addSt (by have := h3.1; omega) ?_
        walk_at "go"
        have h4 : OkN 203 (repS "/a" 100 ++ cutS "/bc" none (some (r % 3))) := OkN.cat (n := 200) (okB (by decide +kernel)) h3
        refine g_slS (by have := h4.1; omega) ?_
        walk_at "go"
        exact ⟨rfl, _, _, _, _, h4.cut.mono (by omega), rfl⟩
      · walk_at "go"
        exact ⟨rfl, _, _, _, _, ok.mono (by omega), rfl⟩
    clear ok x v5 v6 v7
    rintro σ H5 ⟨rfl, x, v5, v6, v7, ok, rfl⟩
    walk_at "go"
    exact kQ x _ S ok
open PySem PySem.Spec L2
def sp_law (K : Frag) : Sp := fun vs H Q _ => ∃ (a : Addr) (ns : List Int), vs = [.ref a] ∧ SqL K H a (ns.map V.int) ∧ ∀ H', Q (.bl true) H'
abbrev N_law : List Str := ["_law_script", "_law_text_here", "_law_k", "_law_path", "_law_given", "_law_again"]
def t_law (K : Frag) (E : XK) : TS :=
  (tSeq (tIfS (tTest (tOp (rNeD K) (tLst (tCons (tC (V.int 28)) (tCons (tC (V.int 200)) (tCons (tC (V.int 16)) (tCons (tC (V.int 8)) (tCons (tC (V.int 40)) tNil)))))) (tLst (tCons (tC (V.int 28)) (tCons (tC (V.int 200)) (tCons (tC (V.int 16)) (tCons (tC (V.int 8)) (tCons (tC (V.int 40)) tNil)))))))) (tRet (tC (V.bl false))) tNext) (tSeq (tFor (iList K (tLst (tCons (tC (V.str "")) (tCons (tC (V.str "/")) (tCons (tC (V.str "//")) (tCons (tC (V.str "/a//")) (tCons (tC (V.str "a")) (tCons (tC (V.str "/.")) (tCons (tC (V.str "/../")) (tCons (tOp rAddSt (tC (V.str "/")) (tOp rRepS (tC (V.str "a")) (tC (V.int 28)))) (tCons (tOp rAddSt (tC (V.str "/")) (tOp rRepS (tC (V.str "a")) (tC (V.int 29)))) (tCons (tOp rRepS (tC (V.str "/a")) (tC (V.int 16))) (tCons (tOp rAddSt (tOp rRepS (tC (V.str "/a")) (tC (V.int 17))) (tC (V.str "/"))) tNil))))))))))))) (gName 1) (tIfS (tOr (tNot (tB (tCallG (sp__law_agrees K) [] (WD E) (tCons (tVar 1) (tCons (tC (V.bl false)) tNil))))) (tNot (tB (tCallG (sp__law_agrees K) [] (WD E) (tCons (tVar 1) (tCons (tC (V.bl true)) tNil)))))) (tRet (tC (V.bl false))) tNext)) (tSeq (tFor (iList K (tLst (tCons (tOp rRepS (tC (V.str "/")) (tC (V.int 200))) (tCons (tOp rRepS (tC (V.str "/")) (tC (V.int 201))) (tCons (tOp rAddSt (tOp rAddSt (tC (V.str "/")) (tOp rRepS (tC (V.str "b/")) (tC (V.int 99)))) (tC (V.str "b"))) (tCons (tOp rAddSt (tC (V.str "\n")) (tOp rRepS (tC (V.str "a")) (tC (V.int 200)))) (tCons (tOp rAddSt (tC (V.str "/a\n")) (tOp rRepS (tC (V.str "b")) (tC (V.int 29)))) tNil))))))) (gName 1) (tIfS (tOr (tNot (tB (tCallG (sp__law_agrees K) [] (WD E) (tCons (tVar 1) (tCons (tC (V.bl false)) tNil))))) (tNot (tB (tCallG (sp__law_agrees K) [] (WD E) (tCons (tVar 1) (tCons (tC (V.bl true)) tNil)))))) (tRet (tC (V.bl false))) tNext)) (tSeq (tFor (iRng1 (tCons (tC (V.int 24)) tNil)) (gName 2) (tSeq (tAsg (tCallG (sp__law_string K) [] (WD E) (tCons (tVar 0) (tCons (tVar 2) tNil))) (gName 1)) (tIfS (tOr (tNot (tB (tCallG (sp__law_agrees K) [] (WD E) (tCons (tVar 1) (tCons (tC (V.bl false)) tNil))))) (tNot (tB (tCallG (sp__law_agrees K) [] (WD E) (tCons (tVar 1) (tCons (tC (V.bl true)) tNil)))))) (tRet (tC (V.bl false))) tNext))) (tSeq (tAsg (tCallG (sp_read_path K) [] (WD E) (tCons (tC (V.str "/a/b/")) tNil)) (gName 3)) (tSeq (tDrop (tBM K "list" rAppend (tFldC (He.ga K "Path") (tVar 3) ("parts" : Str)) (tCons (tC (V.str "c")) tNil))) (tSeq (tAsg (tLst (tCons (tC (V.str "x")) tNil)) (gName 4)) (tSeq (tAsg (tMakeG (He.ga K "Path") (sp_Path___init__ K) [] (WD E) (tCons (tVar 4) (tCons (tC (V.bl true)) tNil))) (gName 5)) (tSeq (tDrop (tBM K "list" rAppend (tVar 4) (tCons (tC (V.str "y")) tNil))) (tRet (tAndV (tOp (rEqD K) (tFldC (He.ga K "Path") (tCallG (sp_read_path K) [] (WD E) (tCons (tC (V.str "/a/b/")) tNil)) ("parts" : Str)) (tLst (tCons (tC (V.str "a")) (tCons (tC (V.str "b")) tNil)))) (tAndV (tOp (rEqD K) (tFldC (He.ga K "Path") (tVar 5) ("parts" : Str)) (tLst (tCons (tC (V.str "x")) tNil))) (tOp rIsB (tFldC (He.ga K "Path") (tVar 5) ("closed" : Str)) (tC (V.bl true)))))))))))))))
theorem len_law {K : Frag} {vs : List V} {H : Hp} {Q : VK} {E : XK} : sp_law K vs H Q E → vs.length = (["_law_script"] : List Str).length := by walk_at "len"
theorem pure_law {K : Frag} {vs : List V} {H : Hp} {Q : VK} {E : XK} (h : sp_law K vs H Q E) : t_law K E { nx := fun _ H' => Q .non H', rt := Q } (start N_law vs) H := by
  obtain ⟨a, ns, rfl, hS, kQ⟩ := h
  unfold t_law
  walk_at "go"
  refine g_newN (by simp) fun p1 n1 => ?_
  walk_at "go"
  refine g_newN (by simp) fun p2 n2 => ?_
  walk_at "go"
  refine g_neD (dp_ints (ns := [28, 200, 16, 8, 40]) (SqL.of (at_upd (nu1 n2).symm upd_same))) (dp_ints (SqL.of upd_same)) (fine_ints _) ?_
  walk_at "go"
  have S2 := same_new2' (o := .lst [.int 28, .int 200, .int 16, .int 8, .int 40]) (u := .lst [.int 28, .int 200, .int 16, .int 8, .int 40]) n1 n2
  generalize upd (upd H p1 _) p2 _ = H2 at S2 ⊢
  clear n1 n2 p1 p2
  refine g_newN (by simp) fun p3 n3 => ?_
  walk_at "go"
  have S3 := fun o : HO => (show Same H (upd H2 p3 o) from fun b u e => at_upd (ne_of_none (S2 b u e) n3) (S2 b u e))
  refine l_list (Pv := fun i σ H' => Same _ H' ∧ ∃ v1 v2 v3 v4 v5, σ = [some (.ref a), v1, v2, v3, v4, v5]) (SqL.of upd_same) ⟨fun b o e => e, _, _, _, _, _, rfl⟩ (fun i σ H' _ q => SqL.of (q.1 _ _ upd_same)) ?_ ?_
  · rintro i v σ H' hv ⟨S, v1, v2, v3, v4, v5, rfl⟩
    obtain ⟨x, rfl, ok⟩ : ∃ x, v = .str x ∧ OkT x := by
      have := List.mem_of_getElem? hv
      simp only [List.mem_cons, List.not_mem_nil, or_false] at this
      rcases this with rfl | rfl | rfl | rfl | rfl | rfl | rfl | rfl | rfl | rfl | rfl <;> exact ⟨_, rfl, OkN.okT (n := 1000) (okB (by decide +kernel)) (by decide)⟩
    walk_at "go"
    refine ⟨x, false, rfl, ok, fun H4 S4 => ?_⟩
    walk_at "go"
    refine ⟨x, true, rfl, ok, fun H5 S5 => ?_⟩
    walk_at "go"
    exact ⟨fun b o e => S5 b o (S4 b o (S b o e)), _, _, _, _, _, rfl⟩
  rintro σ H' ⟨S, v1, v2, v3, v4, v5, rfl⟩
  replace S2 : Same H H' := fun b o e => S b o (S3 _ b o e)
  clear S S3 n3 p3
  walk_at "go"
  refine g_newN (by simp) fun p4 n4 => ?_
  walk_at "go"
  have S3 := fun o : HO => (show Same H (upd H' p4 o) from fun b u e => at_upd (ne_of_none (S2 b u e) n4) (S2 b u e))
  refine l_list (Pv := fun i σ H' => Same _ H' ∧ ∃ v1 v2 v3 v4 v5, σ = [some (.ref a), v1, v2, v3, v4, v5]) (SqL.of upd_same) ⟨fun b o e => e, _, _, _, _, _, rfl⟩ (fun i σ H' _ q => SqL.of (q.1 _ _ upd_same)) ?_ ?_
  · rintro i v σ H'' hv ⟨S, v1, v2, v3, v4, v5, rfl⟩
    obtain ⟨x, rfl, ok⟩ : ∃ x, v = .str x ∧ OkT x := by
      have := List.mem_of_getElem? hv
      simp only [List.mem_cons, List.not_mem_nil, or_false] at this
      rcases this with rfl | rfl | rfl | rfl | rfl <;> exact ⟨_, rfl, OkN.okT (n := 1000) (okB (by decide +kernel)) (by decide)⟩
    walk_at "go"
    refine ⟨x, false, rfl, ok, fun H4 S4 => ?_⟩
    walk_at "go"
    refine ⟨x, true, rfl, ok, fun H5 S5 => ?_⟩
    walk_at "go"
    exact ⟨fun b o e => S5 b o (S4 b o (S b o e)), _, _, _, _, _, rfl⟩
  rintro σ H6 ⟨S, v1, v2, v3, v4, v5, rfl⟩
  replace S2 : Same H H6 := fun b o e => S b o (S3 _ b o e)
  clear S S3 n4 p4
  walk_at "go"
  have hS6 := Same.seq S2 hS
  refine l_rng1 (fun i σ H' => Same H6 H' ∧ ∃ v1 v2 v3 v4 v5, σ = [some (.ref a), v1, v2, v3, v4, v5]) (by omega) ⟨fun b o e => e, _, _, _, _, _, rfl⟩ ?_ ?_
  · clear v1 v2 v3 v4 v5
    rintro i σ H7 hi ⟨S, v1, v2, v3, v4, v5, rfl⟩
    walk_at "go"
    refine ⟨a, ns, (i : Int), rfl, Same.seq S hS6, by omega, fun x H8 S8 ok => ?_⟩
    walk_at "go"
    refine ⟨x, false, rfl, ok.okT (by decide), fun H9 S9 => ?_⟩
    walk_at "go"
    refine ⟨x, true, rfl, ok.okT (by decide), fun H10 S10 => ?_⟩
    walk_at "go"
    exact ⟨fun b o e => S10 b o (S9 b o (S8 b o (S b o e))), _, _, _, _, _, rfl⟩
  · clear v1 v2 v3 v4 v5
    rintro σ H7 ⟨S, v1, v2, v3, v4, v5, rfl⟩
    have dd : due ("/a/b/" : Str).cps.toList false = "" := by decide +kernel
    have pp : parts [] ("/a/b/" : Str).cps.toList = [[97], [98]] := by decide +kernel
    have okab : OkT "/a/b/" := OkN.okT (n := 1000) (okB (by decide +kernel)) (by decide)
    walk_at "go"
    refine ⟨"/a/b/", rfl, okab.1, okab.no, fun H' _ z => (by rw [dd] at z; cases z), fun H' _ z => (by rw [dd] at z; cases z), fun a1 d1 p1 H8 S8 _ na np hp ha => ?_⟩
    rw [pp] at hp
    have ha' : H8 a1 = some (.ins (He.ga K "Path") d1 [("parts", .ref p1), ("closed", .bl (closed ("/a/b/" : Str).cps.toList))]) := ha
    walk_at "go"
    refine g_app hp (by decide) ?_
    walk_at "go"
    refine g_newN (by simp) fun p2 n2 => ?_
    walk_at "go"
    intro x d nx nd ne
    refine ⟨x, d, p2, [.str "x"], true, rfl, upd_same, SqL.of (at_upd (nu1 nx).symm (at_upd (nu1 nd).symm upd_same)), fun q H9 k9 nq hq hx => ⟨rfl, ?_⟩⟩
    have n2x : p2 ≠ x := (nu1 nx).symm
    have hp2 : H9 p2 = some (.lst [.str "x"]) := k9 _ _ (at_upd (nu1 nx).symm (at_upd (nu1 nd).symm upd_same)) (nm1 n2x)
    walk_at "go"
    refine g_app hp2 (by decide) ?_
    walk_at "go"
    refine ⟨"/a/b/", rfl, okab.1, okab.no, fun H' _ z => (by rw [dd] at z; cases z), fun H' _ z => (by rw [dd] at z; cases z), fun a2 d2 p3 H10 S10 _ na2 np2 hp3 ha2 => ?_⟩
    rw [pp] at hp3
    have ha2' : H10 a2 = some (.ins (He.ga K "Path") d2 [("parts", .ref p3), ("closed", .bl (closed ("/a/b/" : Str).cps.toList))]) := ha2
    walk_at "go"
    refine g_newN (by simp) fun p4 n4 => ?_
    walk_at "go"
    refine g_eqD (dp_parts (ps := [[97], [98]]) (at_upd (ne_of_none hp3 n4) hp3)) (dp_parts upd_same) (fine_parts (by decide)) ?_
    walk_at "go"
    have nqx : q ≠ p2 := fun z => by rw [z] at nq; rw [at_upd (nu1 nx).symm (at_upd (nu1 nd).symm upd_same)] at nq; cases nq
    have hx' : (upd H9 p2 (.lst ([.str "x"] ++ [.str "y"]))) x = some (.ins (He.ga K "Path") d [("parts", .ref q), ("closed", .bl true)]) := by rw [upd_ne n2x.symm]; exact hx
    have hx2 := S10 _ _ hx'
    have hq' : (upd H9 p2 (.lst ([.str "x"] ++ [.str "y"]))) q = some (.lst [.str "x"]) := by rw [upd_ne nqx]; exact hq
    have hq2 := S10 _ _ hq'
    walk_at "go"
    refine g_newN (by simp) fun p5 n5 => ?_
    walk_at "go"
    refine g_eqD (dp_parts (ps := [[120]]) (at_upd (ne_of_none (at_upd (ne_of_none hq2 n4) hq2) n5) (at_upd (ne_of_none hq2 n4) hq2))) (dp_parts upd_same) (fine_parts (by decide)) ?_
    walk_at "go"
    rw [decide_eq_true rfl]
    exact kQ _
open PySem PySem.Spec L2
def top (i : Nat) : Stmt := PySem.Challenge.pw_segmentfs_k54_read_paths.main.body.getD i (.Pass ⟨0, 0, 0, 0⟩)
def s__law_bad : Stmt := top 23
def s__law_parts : Stmt := top 22
def s__law_due : Stmt := top 24
def s_is_code : Stmt := top 6
def s_is_text : Stmt := top 7
def s_parts_of_text : Stmt := top 15
def s_read_target : Stmt := top 17
def s_Path___init__ : Stmt := inClass (top 14) 0
def s_read_path : Stmt := top 16
def s__law_told : Stmt := top 25
def s__law_agrees : Stmt := top 26
def s__law_row : Stmt := top 19
def s__law_char : Stmt := top 20
def s__law_text : Stmt := top 21
def s__law_string : Stmt := top 27
def s_law : Stmt := top 28
theorem sc__law_bad : FnScope N__law_bad ["_law_text_here"] (defScope s__law_bad) := ⟨rfl, rfl, rfl, by decide +kernel, rfl, by decide +kernel, by decide +kernel⟩
theorem sc__law_parts : FnScope N__law_parts ["_law_text_here"] (defScope s__law_parts) := ⟨rfl, rfl, rfl, by decide +kernel, rfl, by decide +kernel, by decide +kernel⟩
theorem sc__law_due : FnScope N__law_due ["_law_text_here", "_law_target"] (defScope s__law_due) := ⟨rfl, rfl, rfl, by decide +kernel, rfl, by decide +kernel, by decide +kernel⟩
theorem sc_is_code : FnScope N_is_code ["code"] (defScope s_is_code) := ⟨rfl, rfl, rfl, by decide +kernel, rfl, by decide +kernel, by decide +kernel⟩
theorem sc_is_text : FnScope N_is_text ["text"] (defScope s_is_text) := ⟨rfl, rfl, rfl, by decide +kernel, rfl, by decide +kernel, by decide +kernel⟩
theorem sc_parts_of_text : FnScope N_parts_of_text ["text"] (defScope s_parts_of_text) := ⟨rfl, rfl, rfl, by decide +kernel, rfl, by decide +kernel, by decide +kernel⟩
theorem sc_read_target : FnScope N_read_target ["text"] (defScope s_read_target) := ⟨rfl, rfl, rfl, by decide +kernel, rfl, by decide +kernel, by decide +kernel⟩
theorem sc_Path___init__ : FnScope N_Path___init__ ["self", "parts", "closed"] (defScope s_Path___init__) := ⟨rfl, rfl, rfl, by decide +kernel, rfl, by decide +kernel, by decide +kernel⟩
theorem sc_read_path : FnScope N_read_path ["text"] (defScope s_read_path) := ⟨rfl, rfl, rfl, by decide +kernel, rfl, by decide +kernel, by decide +kernel⟩
theorem sc__law_told : FnScope N__law_told ["_law_text_here", "_law_target"] (defScope s__law_told) := ⟨rfl, rfl, rfl, by decide +kernel, rfl, by decide +kernel, by decide +kernel⟩
theorem sc__law_agrees : FnScope N__law_agrees ["_law_text_here", "_law_target"] (defScope s__law_agrees) := ⟨rfl, rfl, rfl, by decide +kernel, rfl, by decide +kernel, by decide +kernel⟩
theorem sc__law_row : FnScope N__law_row ["_law_script", "_law_k"] (defScope s__law_row) := ⟨rfl, rfl, rfl, by decide +kernel, rfl, by decide +kernel, by decide +kernel⟩
theorem sc__law_char : FnScope N__law_char ["_law_number"] (defScope s__law_char) := ⟨rfl, rfl, rfl, by decide +kernel, rfl, by decide +kernel, by decide +kernel⟩
theorem sc__law_text : FnScope N__law_text ["_law_number", "_law_count"] (defScope s__law_text) := ⟨rfl, rfl, rfl, by decide +kernel, rfl, by decide +kernel, by decide +kernel⟩
theorem sc__law_string : FnScope N__law_string ["_law_script", "_law_k"] (defScope s__law_string) := ⟨rfl, rfl, rfl, by decide +kernel, rfl, by decide +kernel, by decide +kernel⟩
theorem sc_law : FnScope N_law ["_law_script"] (defScope s_law) := ⟨rfl, rfl, rfl, by decide +kernel, rfl, by decide +kernel, by decide +kernel⟩
def d__law_bad : Df := ⟨(.fn "_law_bad"), "_law_bad", "_law_bad", s__law_bad, [], []⟩
def d__law_parts : Df := ⟨(.fn "_law_parts"), "_law_parts", "_law_parts", s__law_parts, [], []⟩
def d__law_due : Df := ⟨(.fn "_law_due"), "_law_due", "_law_due", s__law_due, [], []⟩
def d_is_code : Df := ⟨(.fn "is_code"), "is_code", "is_code", s_is_code, [], []⟩
def d_is_text : Df := ⟨(.fn "is_text"), "is_text", "is_text", s_is_text, [], []⟩
def d_parts_of_text : Df := ⟨(.fn "parts_of_text"), "parts_of_text", "parts_of_text", s_parts_of_text, [], []⟩
def d_read_target : Df := ⟨(.fn "read_target"), "read_target", "read_target", s_read_target, [], []⟩
def d_Path___init__ : Df := ⟨(.me "Path" "__init__"), "__init__", "Path.__init__", s_Path___init__, [], []⟩
def d_read_path : Df := ⟨(.fn "read_path"), "read_path", "read_path", s_read_path, [], []⟩
def d__law_told : Df := ⟨(.fn "_law_told"), "_law_told", "_law_told", s__law_told, [], []⟩
def d__law_agrees : Df := ⟨(.fn "_law_agrees"), "_law_agrees", "_law_agrees", s__law_agrees, [], []⟩
def d__law_row : Df := ⟨(.fn "_law_row"), "_law_row", "_law_row", s__law_row, [], []⟩
def d__law_char : Df := ⟨(.fn "_law_char"), "_law_char", "_law_char", s__law_char, [], []⟩
def d__law_text : Df := ⟨(.fn "_law_text"), "_law_text", "_law_text", s__law_text, [], []⟩
def d__law_string : Df := ⟨(.fn "_law_string"), "_law_string", "_law_string", s__law_string, [], []⟩
def d_law : Df := ⟨(.fn "law"), "law", "law", s_law, [], []⟩
def fns : List Df := [d__law_bad, d__law_parts, d__law_due, d_is_code, d_is_text, d_parts_of_text, d_read_target, d_Path___init__, d_read_path, d__law_told, d__law_agrees, d__law_row, d__law_char, d__law_text, d__law_string, d_law]
def bits (K : Frag) : List Bool := [
  (He.Fa.int "MOST_LINKS" 40).ok K,
  (He.Fa.int "MOST_FOLLOWED" 8).ok K,
  (He.Fa.int "MOST_NAMES" 16).ok K,
  (He.Fa.int "MOST_PATH" 200).ok K,
  (He.Fa.int "MOST_NAME" 28).ok K,
  (He.Fa.free "range").ok K,
  (He.Fa.cls "Path").ok K,
  (He.Fa.noat "Path" "parts").ok K,
  (He.Fa.mkr "Path").ok K,
  (He.Fa.glo "Path").ok K,
  (He.Fa.noat "Path" "closed").ok K,
  (He.Fa.free "list").ok K,
  (He.Fa.free "len").ok K,
  (He.Fa.exc "NameTooLong").ok K,
  (He.Fa.glo "NameTooLong").ok K,
  (He.Fa.exc "InvalidPath").ok K,
  (He.Fa.glo "InvalidPath").ok K,
  (He.Fa.free "any").ok K,
  (He.Fa.free "ord").ok K,
  (He.Fa.free "all").ok K,
  (He.Fa.int "PERCENT" 37).ok K,
  (He.Fa.free "int").ok K,
  (He.Fa.free "bool").ok K,
  (He.Fa.free "isinstance").ok K,
  (He.Fa.free "ValueError").ok K,
  (He.Fa.glo "SegmentError").ok K,
  (He.Fa.exm "InvalidPath" "SegmentError" true).ok K,
  (He.Fa.exm "NameTooLong" "SegmentError" true).ok K,
  excB K "InvalidPath",
  excB K "NameTooLong",
  kitB2 K "InvalidPath" "InvalidPath" true,
  kitB2 K "InvalidPath" "NameTooLong" false,
  kitB2 K "NameTooLong" "InvalidPath" false,
  kitB2 K "NameTooLong" "NameTooLong" true,
  kitTy K "InvalidPath" "ValueError" true,
  kitTy K "NameTooLong" "ValueError" true,
  (He.Fa.glo "_law_bad").ok K,
  (He.Fa.glo "_law_parts").ok K,
  (He.Fa.glo "_law_due").ok K,
  (He.Fa.glo "is_code").ok K,
  (He.Fa.glo "is_text").ok K,
  (He.Fa.glo "parts_of_text").ok K,
  (He.Fa.glo "read_target").ok K,
  (He.Fa.glo "read_path").ok K,
  (He.Fa.glo "_law_told").ok K,
  (He.Fa.glo "_law_agrees").ok K,
  (He.Fa.glo "_law_row").ok K,
  (He.Fa.glo "_law_char").ok K,
  (He.Fa.glo "_law_text").ok K,
  (He.Fa.glo "_law_string").ok K,
  (He.Fa.glo "law").ok K]
abbrev TX (K : Frag) (mg : Str → Option Value) : Prop := Tx bits fns K mg
section
variable {K : Frag} {mg : Str → Option Value}
theorem F_int_MOST_LINKS_40 (T : TX K mg) : ∃ t, mg "MOST_LINKS" = some (.int 40 t) := T.int (T.bit 0)
theorem F_int_MOST_FOLLOWED_8 (T : TX K mg) : ∃ t, mg "MOST_FOLLOWED" = some (.int 8 t) := T.int (T.bit 1)
theorem F_int_MOST_NAMES_16 (T : TX K mg) : ∃ t, mg "MOST_NAMES" = some (.int 16 t) := T.int (T.bit 2)
theorem F_int_MOST_PATH_200 (T : TX K mg) : ∃ t, mg "MOST_PATH" = some (.int 200 t) := T.int (T.bit 3)
theorem F_int_MOST_NAME_28 (T : TX K mg) : ∃ t, mg "MOST_NAME" = some (.int 28 t) := T.int (T.bit 4)
theorem F_free_range (T : TX K mg) : mg "range" = none := T.free (T.bit 5)
theorem F_cls_Path (T : TX K mg) : Cls K (He.ga K "Path") := He.cls_ok (T.bit 6)
theorem F_noat_Path_parts (T : TX K mg) : NoAttr K (He.ga K "Path") "parts" := He.noat_ok (T.bit 7)
theorem F_mkr_Path (T : TX K mg) : Mk K (He.ga K "Path") (He.ma K (He.ga K "Path") "__init__") := He.mkr_ok (T.bit 8)
theorem F_glo_Path (T : TX K mg) : mg "Path" = some (.ref (He.ga K "Path")) := T.glo (T.bit 9)
theorem F_noat_Path_closed (T : TX K mg) : NoAttr K (He.ga K "Path") "closed" := He.noat_ok (T.bit 10)
theorem F_free_list (T : TX K mg) : mg "list" = none := T.free (T.bit 11)
theorem F_free_len (T : TX K mg) : mg "len" = none := T.free (T.bit 12)
theorem F_exc_NameTooLong (T : TX K mg) : PySem.W.excIn K (He.ga K "NameTooLong") He.veBase "ValueError.__new__" = true ∧ PySem.W.keepIn K (.ref (He.ga K "NameTooLong")) = true ∧ PySem.W.subIn K (.ref (He.ga K "NameTooLong")) (.type "BaseException") = some true ∧ PySem.W.typeIn K (.ref (He.ga K "NameTooLong")) = some (.type "type") := He.exc_ok (T.bit 13)
theorem F_glo_NameTooLong (T : TX K mg) : mg "NameTooLong" = some (.ref (He.ga K "NameTooLong")) := T.glo (T.bit 14)
theorem F_exc_InvalidPath (T : TX K mg) : PySem.W.excIn K (He.ga K "InvalidPath") He.veBase "ValueError.__new__" = true ∧ PySem.W.keepIn K (.ref (He.ga K "InvalidPath")) = true ∧ PySem.W.subIn K (.ref (He.ga K "InvalidPath")) (.type "BaseException") = some true ∧ PySem.W.typeIn K (.ref (He.ga K "InvalidPath")) = some (.type "type") := He.exc_ok (T.bit 15)
theorem F_glo_InvalidPath (T : TX K mg) : mg "InvalidPath" = some (.ref (He.ga K "InvalidPath")) := T.glo (T.bit 16)
theorem F_free_any (T : TX K mg) : mg "any" = none := T.free (T.bit 17)
theorem F_free_ord (T : TX K mg) : mg "ord" = none := T.free (T.bit 18)
theorem F_free_all (T : TX K mg) : mg "all" = none := T.free (T.bit 19)
theorem F_int_PERCENT_37 (T : TX K mg) : ∃ t, mg "PERCENT" = some (.int 37 t) := T.int (T.bit 20)
theorem F_free_int (T : TX K mg) : mg "int" = none := T.free (T.bit 21)
theorem F_free_bool (T : TX K mg) : mg "bool" = none := T.free (T.bit 22)
theorem F_free_isinstance (T : TX K mg) : mg "isinstance" = none := T.free (T.bit 23)
theorem F_free_ValueError (T : TX K mg) : mg "ValueError" = none := T.free (T.bit 24)
theorem F_glo_SegmentError (T : TX K mg) : mg "SegmentError" = some (.ref (He.ga K "SegmentError")) := T.glo (T.bit 25)
theorem F_exm_InvalidPath_SegmentError_True (T : TX K mg) : PySem.W.exmOne K (.ref (He.ga K "InvalidPath")) (.ref (He.ga K "SegmentError")) = some true := He.exm_ok (T.bit 26)
theorem F_exm_NameTooLong_SegmentError_True (T : TX K mg) : PySem.W.exmOne K (.ref (He.ga K "NameTooLong")) (.ref (He.ga K "SegmentError")) = some true := He.exm_ok (T.bit 27)
theorem F_excC_InvalidPath (T : TX K mg) : ExcC K (He.ga K "InvalidPath") := excB_ok (T.bit 28)
theorem F_excC_NameTooLong (T : TX K mg) : ExcC K (He.ga K "NameTooLong") := excB_ok (T.bit 29)
theorem F_kit_InvalidPath_InvalidPath_True (T : TX K mg) : PySem.W.kitOne K (.ref (He.ga K "InvalidPath")) (.ref (He.ga K "InvalidPath")) = some true := kitB2_ok (T.bit 30)
theorem F_kit_InvalidPath_NameTooLong_False (T : TX K mg) : PySem.W.kitOne K (.ref (He.ga K "InvalidPath")) (.ref (He.ga K "NameTooLong")) = some false := kitB2_ok (T.bit 31)
theorem F_kit_NameTooLong_InvalidPath_False (T : TX K mg) : PySem.W.kitOne K (.ref (He.ga K "NameTooLong")) (.ref (He.ga K "InvalidPath")) = some false := kitB2_ok (T.bit 32)
theorem F_kit_NameTooLong_NameTooLong_True (T : TX K mg) : PySem.W.kitOne K (.ref (He.ga K "NameTooLong")) (.ref (He.ga K "NameTooLong")) = some true := kitB2_ok (T.bit 33)
theorem F_kitTy_InvalidPath_ValueError_True (T : TX K mg) : PySem.W.kitOne K (.ref (He.ga K "InvalidPath")) (.type "ValueError") = some true := kitTy_ok (T.bit 34)
theorem F_kitTy_NameTooLong_ValueError_True (T : TX K mg) : PySem.W.kitOne K (.ref (He.ga K "NameTooLong")) (.type "ValueError") = some true := kitTy_ok (T.bit 35)
theorem F_glo__law_bad (T : TX K mg) : mg "_law_bad" = some (.ref (He.ga K "_law_bad")) := T.glo (T.bit 36)
theorem F_glo__law_parts (T : TX K mg) : mg "_law_parts" = some (.ref (He.ga K "_law_parts")) := T.glo (T.bit 37)
theorem F_glo__law_due (T : TX K mg) : mg "_law_due" = some (.ref (He.ga K "_law_due")) := T.glo (T.bit 38)
theorem F_glo_is_code (T : TX K mg) : mg "is_code" = some (.ref (He.ga K "is_code")) := T.glo (T.bit 39)
theorem F_glo_is_text (T : TX K mg) : mg "is_text" = some (.ref (He.ga K "is_text")) := T.glo (T.bit 40)
theorem F_glo_parts_of_text (T : TX K mg) : mg "parts_of_text" = some (.ref (He.ga K "parts_of_text")) := T.glo (T.bit 41)
theorem F_glo_read_target (T : TX K mg) : mg "read_target" = some (.ref (He.ga K "read_target")) := T.glo (T.bit 42)
theorem F_glo_read_path (T : TX K mg) : mg "read_path" = some (.ref (He.ga K "read_path")) := T.glo (T.bit 43)
theorem F_glo__law_told (T : TX K mg) : mg "_law_told" = some (.ref (He.ga K "_law_told")) := T.glo (T.bit 44)
theorem F_glo__law_agrees (T : TX K mg) : mg "_law_agrees" = some (.ref (He.ga K "_law_agrees")) := T.glo (T.bit 45)
theorem F_glo__law_row (T : TX K mg) : mg "_law_row" = some (.ref (He.ga K "_law_row")) := T.glo (T.bit 46)
theorem F_glo__law_char (T : TX K mg) : mg "_law_char" = some (.ref (He.ga K "_law_char")) := T.glo (T.bit 47)
theorem F_glo__law_text (T : TX K mg) : mg "_law_text" = some (.ref (He.ga K "_law_text")) := T.glo (T.bit 48)
theorem F_glo__law_string (T : TX K mg) : mg "_law_string" = some (.ref (He.ga K "_law_string")) := T.glo (T.bit 49)
theorem F_glo_law (T : TX K mg) : mg "law" = some (.ref (He.ga K "law")) := T.glo (T.bit 50)
theorem f__law_bad (T : TX K mg) : ∃ fd, FunS K d__law_bad fd := T.df 0
theorem f__law_parts (T : TX K mg) : ∃ fd, FunS K d__law_parts fd := T.df 1
theorem f__law_due (T : TX K mg) : ∃ fd, FunS K d__law_due fd := T.df 2
theorem f_is_code (T : TX K mg) : ∃ fd, FunS K d_is_code fd := T.df 3
theorem f_is_text (T : TX K mg) : ∃ fd, FunS K d_is_text fd := T.df 4
theorem f_parts_of_text (T : TX K mg) : ∃ fd, FunS K d_parts_of_text fd := T.df 5
theorem f_read_target (T : TX K mg) : ∃ fd, FunS K d_read_target fd := T.df 6
theorem f_Path___init__ (T : TX K mg) : ∃ fd, FunS K d_Path___init__ fd := T.df 7
theorem f_read_path (T : TX K mg) : ∃ fd, FunS K d_read_path fd := T.df 8
theorem f__law_told (T : TX K mg) : ∃ fd, FunS K d__law_told fd := T.df 9
theorem f__law_agrees (T : TX K mg) : ∃ fd, FunS K d__law_agrees fd := T.df 10
theorem f__law_row (T : TX K mg) : ∃ fd, FunS K d__law_row fd := T.df 11
theorem f__law_char (T : TX K mg) : ∃ fd, FunS K d__law_char fd := T.df 12
theorem f__law_text (T : TX K mg) : ∃ fd, FunS K d__law_text fd := T.df 13
theorem f__law_string (T : TX K mg) : ∃ fd, FunS K d__law_string fd := T.df 14
theorem f_law (T : TX K mg) : ∃ fd, FunS K d_law fd := T.df 15
end
section
variable {P : Program} {w : World} {K : Frag} {mg : Str → Option Value} {base : Heap}
theorem fok__law_bad (T : TX K mg) {fd : FuncData} (F : FunS K d__law_bad fd) : FnOk P w K mg base (L2.CX P w) 1 (He.ga K "_law_bad") fd ["_law_text_here"] (sp__law_bad K) := by
  refine F.ok (CX := L2.CX P w) sc__law_bad (fun vs H Q E h => len__law_bad h) fun cdv A outer s H vs Q E hr h => ⟨t__law_bad K E, ?_, pure__law_bad h⟩
  refine tk_intro (E := E) (takes_of rfl rfl rfl rfl) fun tk => ?_
  exact (pss_cons (ps_for (passes_of rfl) rfl (pi_str (pv 0)) (pg_name (i := 1) sc__law_bad.nd rfl (Or.inl rfl)) (pss_one (ps_if (PW.pt (pw_or (pt_cmpR op_lt (pe_callB x_ord (by rfl) (F_free_ord T) (by decide +kernel) (pa_cons (pv 1) pa_nil)) pe_int (nomark _)) (pw_or1 (pt_cmpR op_gt (pe_callB x_ord (by rfl) (F_free_ord T) (by decide +kernel) (pa_cons (pv 1) pa_nil)) pe_int (nomark _))))) (pss_one (ps_ret pe_bl)) pss_nil))) (pss_one (ps_ret pe_bl)))
theorem ok_G__law_bad (T : TX K mg) : Gf P w K mg base 1 "_law_bad" ["_law_text_here"] [] (sp__law_bad K) := by
  obtain ⟨fd, F⟩ := f__law_bad T
  obtain ⟨ds, hd, hb⟩ : ∃ ds, Vals ([] : List V) ds ∧ Binds K fd ["_law_text_here"] ds := ⟨[], .nil, FunD.bindsN F fun _ _ _ _ _ _ us hl => match us, hl with | [_], _ => rfl⟩
  exact ⟨⟨fd, ds, fok__law_bad T F, hb, hd⟩, F_glo__law_bad T, F.kp⟩
theorem fok__law_parts (T : TX K mg) {fd : FuncData} (F : FunS K d__law_parts fd) : FnOk P w K mg base (L2.CX P w) 1 (He.ga K "_law_parts") fd ["_law_text_here"] (sp__law_parts K) := by
  refine F.ok (CX := L2.CX P w) sc__law_parts (fun vs H Q E h => len__law_parts h) fun cdv A outer s H vs Q E hr h => ⟨t__law_parts K E, ?_, pure__law_parts h⟩
  refine tk_intro (E := E) (takes_of rfl rfl rfl rfl) fun tk => ?_
  exact (pss_cons (ps_set (i := 1) sc__law_parts.nd rfl (Or.inl rfl) (pe_lst pa_nil)) (pss_cons (ps_set (i := 2) sc__law_parts.nd rfl (Or.inl rfl) pe_str) (pss_cons (ps_for (passes_of rfl) rfl (pi_str (pe_op x_addS (pv 0) pe_str)) (pg_name (i := 3) sc__law_parts.nd rfl (Or.inl rfl)) (pss_one (ps_if (pt_cmpR op_ne (pv 3) pe_str (nomark _)) (pss_one (ps_set (i := 2) sc__law_parts.nd rfl (Or.inl rfl) (pe_op x_addS (pv 2) (pv 3)))) (pss_one (ps_if (pt_cmpR op_ne (pv 2) pe_str (nomark _)) (pss_cons (ps_expr (pe_bm PySem.F.plainAttrs_list PySem.F.slot_list_append PySem.F.type_list_append mt_append (pv 1) (pa_cons (pv 2) pa_nil))) (pss_one (ps_set (i := 2) sc__law_parts.nd rfl (Or.inl rfl) pe_str))) pss_nil))))) (pss_one (ps_ret (pv 1))))))
theorem ok_G__law_parts (T : TX K mg) : Gf P w K mg base 1 "_law_parts" ["_law_text_here"] [] (sp__law_parts K) := by
  obtain ⟨fd, F⟩ := f__law_parts T
  obtain ⟨ds, hd, hb⟩ : ∃ ds, Vals ([] : List V) ds ∧ Binds K fd ["_law_text_here"] ds := ⟨[], .nil, FunD.bindsN F fun _ _ _ _ _ _ us hl => match us, hl with | [_], _ => rfl⟩
  exact ⟨⟨fd, ds, fok__law_parts T F, hb, hd⟩, F_glo__law_parts T, F.kp⟩
theorem fok__law_due (T : TX K mg) {fd : FuncData} (F : FunS K d__law_due fd) : FnOk P w K mg base (L2.CX P w) 2 (He.ga K "_law_due") fd ["_law_text_here", "_law_target"] (sp__law_due K) := by
  have G__law_bad := @ok_G__law_bad P w K mg base T
  have G__law_parts := @ok_G__law_parts P w K mg base T
  refine F.ok (CX := L2.CX P w) sc__law_due (fun vs H Q E h => len__law_due h) fun cdv A outer s H vs Q E hr h => ⟨t__law_due K E, ?_, pure__law_due h⟩
  refine tk_intro (E := E) (takes_of rfl rfl rfl rfl) fun tk => ?_
  exact (pss_cons (ps_if (pt_cmpR op_gt (pe_callB x_lenS (by rfl) (F_free_len T) (by decide +kernel) (pa_cons (pv 0) pa_nil)) pe_int (nomark _)) (pss_one (ps_ret pe_str)) pss_nil) (pss_cons (ps_if (PW.pt (pw_or (pt_val (x_call G__law_bad (hr.mono (by decide)) (by rfl) tk (pa_cons (pv 0) pa_nil))) (pw_or (PW.pt (pw_and (pt_val (pv 1)) (pw_and1 (pt_cmpR op_eq (pv 0) pe_str (nomark _))))) (pw_or1 (PW.pt (pw_and (pt_not (pt_val (pv 1))) (pw_and1 (pt_cmpR op_ne (pe_slice x_slS (pv 0) po_none (po_some pe_int)) pe_str (nomark _))))))))) (pss_one (ps_ret pe_str)) pss_nil) (pss_cons (ps_set (i := 2) sc__law_due.nd rfl (Or.inl rfl) (x_call G__law_parts (hr.mono (by decide)) (by rfl) tk (pa_cons (pv 0) pa_nil))) (pss_cons (ps_if (PW.pt (pw_and (pt_not (pt_val (pv 1))) (pw_and1 (PW.pt (pw_or (pt_cmpR op_gt (pe_callB x_lenQ (by rfl) (F_free_len T) (by decide +kernel) (pa_cons (pv 2) pa_nil)) pe_int (nomark _)) (pw_or1 (pt_cmpR op_gt (pe_callB x_lenQ (by rfl) (F_free_len T) (by decide +kernel) (pa_cons (pe_lc (own := [(("_law_part" : Str), 3)]) (g := (gName 3)) (tt := (tTest (tOp (rI0 fun i j => V.bl (decide (j < i))) (tCB rLenS (tCons (tVar 3) tNil)) (tC (V.int 28))))) rfl sc__law_due.nd (pi_list (pv 2)) (blkOk_by (own := [(("_law_part" : Str), 3)]) (N := N__law_due) (sc := defScope s__law_due) (by decide +kernel)) (fun _ _ _ _ _ => (pg_name (i := 3) sc__law_due.nd rfl (Or.inl rfl))) (fun _ _ _ _ _ => (pts_one (pt_cmpR op_gt (pe_callB x_lenS (by rfl) (F_free_len T) (by decide +kernel) (pa_cons (pv 3) pa_nil)) pe_int (nomark _)))) (fun _ _ _ _ _ => (pv 3))) pa_nil)) pe_int (nomark _)))))))) (pss_one (ps_ret pe_str)) pss_nil) (pss_one (ps_ret pe_str))))))
theorem ok_G__law_due (T : TX K mg) : Gf P w K mg base 2 "_law_due" ["_law_text_here", "_law_target"] [] (sp__law_due K) := by
  obtain ⟨fd, F⟩ := f__law_due T
  obtain ⟨ds, hd, hb⟩ : ∃ ds, Vals ([] : List V) ds ∧ Binds K fd ["_law_text_here", "_law_target"] ds := ⟨[], .nil, FunD.bindsN F fun _ _ _ _ _ _ us hl => match us, hl with | [_, _], _ => rfl⟩
  exact ⟨⟨fd, ds, fok__law_due T F, hb, hd⟩, F_glo__law_due T, F.kp⟩
theorem fok_is_code (T : TX K mg) {fd : FuncData} (F : FunS K d_is_code fd) : FnOk P w K mg base (L2.CX P w) 1 (He.ga K "is_code") fd ["code"] (sp_is_code K) := by
  refine F.ok (CX := L2.CX P w) sc_is_code (fun vs H Q E h => len_is_code h) fun cdv A outer s H vs Q E hr h => ⟨t_is_code K E, ?_, pure_is_code h⟩
  refine tk_intro (E := E) (takes_of rfl rfl rfl rfl) fun tk => ?_
  exact (pss_one (ps_ret (pe_and (pe_chain op_le op_le pe_int (pv 0) pe_int) (pe_one (pe_cmpR op_ne (pv 0) (x_gint (by rfl) (F_int_PERCENT_37 T)) (nomark _))))))
theorem ok_G_is_code (T : TX K mg) : Gf P w K mg base 1 "is_code" ["code"] [] (sp_is_code K) := by
  obtain ⟨fd, F⟩ := f_is_code T
  obtain ⟨ds, hd, hb⟩ : ∃ ds, Vals ([] : List V) ds ∧ Binds K fd ["code"] ds := ⟨[], .nil, FunD.bindsN F fun _ _ _ _ _ _ us hl => match us, hl with | [_], _ => rfl⟩
  exact ⟨⟨fd, ds, fok_is_code T F, hb, hd⟩, F_glo_is_code T, F.kp⟩
theorem fok_is_text (T : TX K mg) {fd : FuncData} (F : FunS K d_is_text fd) : FnOk P w K mg base (L2.CX P w) 2 (He.ga K "is_text") fd ["text"] (sp_is_text K) := by
  have G_is_code := @ok_G_is_code P w K mg base T
  refine F.ok (CX := L2.CX P w) sc_is_text (fun vs H Q E h => len_is_text h) fun cdv A outer s H vs Q E hr h => ⟨t_is_text K E, ?_, pure_is_text h⟩
  refine tk_intro (E := E) (takes_of rfl rfl rfl rfl) fun tk => ?_
  exact (pss_one (ps_ret (pe_callB (cr_all rfl) (by rfl) (F_free_all T) (by decide +kernel) (pa_cons (pe_lc (own := [(("char" : Str), 1)]) (g := (gName 1)) (tt := tYes) rfl sc_is_text.nd (pi_str (pv 0)) (blkOk_by (own := [(("char" : Str), 1)]) (N := N_is_text) (sc := defScope s_is_text) (by decide +kernel)) (fun _ _ _ _ _ => (pg_name (i := 1) sc_is_text.nd rfl (Or.inl rfl))) (fun _ _ _ _ _ => pts_nil) (fun _ _ _ _ _ => (x_call G_is_code (hr.mono (by decide)) (by rfl) takes0 (pa_cons (pe_callB x_ord (by rfl) (F_free_ord T) (by decide +kernel) (pa_cons (pv 1) pa_nil)) pa_nil)))) pa_nil))))
theorem ok_G_is_text (T : TX K mg) : Gf P w K mg base 2 "is_text" ["text"] [] (sp_is_text K) := by
  obtain ⟨fd, F⟩ := f_is_text T
  obtain ⟨ds, hd, hb⟩ : ∃ ds, Vals ([] : List V) ds ∧ Binds K fd ["text"] ds := ⟨[], .nil, FunD.bindsN F fun _ _ _ _ _ _ us hl => match us, hl with | [_], _ => rfl⟩
  exact ⟨⟨fd, ds, fok_is_text T F, hb, hd⟩, F_glo_is_text T, F.kp⟩
theorem fok_parts_of_text (T : TX K mg) {fd : FuncData} (F : FunS K d_parts_of_text fd) : FnOk P w K mg base (L2.CX P w) 1 (He.ga K "parts_of_text") fd ["text"] (sp_parts_of_text K) := by
  refine F.ok (CX := L2.CX P w) sc_parts_of_text (fun vs H Q E h => len_parts_of_text h) fun cdv A outer s H vs Q E hr h => ⟨t_parts_of_text K E, ?_, pure_parts_of_text h⟩
  refine tk_intro (E := E) (takes_of rfl rfl rfl rfl) fun tk => ?_
  exact (pss_one (ps_ret (pe_lc (own := [(("part" : Str), 1)]) (g := (gName 1)) (tt := (tTest (tOp rNe (tVar 1) (tC (V.str ""))))) rfl sc_parts_of_text.nd (pi_list (pe_split (pv 0) pe_str)) (blkOk_by (own := [(("part" : Str), 1)]) (N := N_parts_of_text) (sc := defScope s_parts_of_text) (by decide +kernel)) (fun _ _ _ _ _ => (pg_name (i := 1) sc_parts_of_text.nd rfl (Or.inl rfl))) (fun _ _ _ _ _ => (pts_one (pt_cmpR op_ne (pv 1) pe_str (nomark _)))) (fun _ _ _ _ _ => (pv 1)))))
theorem ok_G_parts_of_text (T : TX K mg) : Gf P w K mg base 1 "parts_of_text" ["text"] [] (sp_parts_of_text K) := by
  obtain ⟨fd, F⟩ := f_parts_of_text T
  obtain ⟨ds, hd, hb⟩ : ∃ ds, Vals ([] : List V) ds ∧ Binds K fd ["text"] ds := ⟨[], .nil, FunD.bindsN F fun _ _ _ _ _ _ us hl => match us, hl with | [_], _ => rfl⟩
  exact ⟨⟨fd, ds, fok_parts_of_text T F, hb, hd⟩, F_glo_parts_of_text T, F.kp⟩
theorem fok_read_target (T : TX K mg) {fd : FuncData} (F : FunS K d_read_target fd) : FnOk P w K mg base (L2.CX P w) 3 (He.ga K "read_target") fd ["text"] (sp_read_target K) := by
  have G_is_text := @ok_G_is_text P w K mg base T
  have G_parts_of_text := @ok_G_parts_of_text P w K mg base T
  refine F.ok (CX := L2.CX P w) sc_read_target (fun vs H Q E h => len_read_target h) fun cdv A outer s H vs Q E hr h => ⟨t_read_target K E, ?_, pure_read_target h⟩
  refine tk_intro (E := E) (takes_of rfl rfl rfl rfl) fun tk => ?_
  exact (pss_cons (ps_if (pt_cmpR op_gt (pe_callB x_lenS (by rfl) (F_free_len T) (by decide +kernel) (pa_cons (pv 0) pa_nil)) (x_gint (by rfl) (F_int_MOST_PATH_200 T)) (nomark _)) (pss_one (x_raise rfl tk (F_exc_NameTooLong T) (F_glo_NameTooLong T) (by rfl))) pss_nil) (pss_cons (ps_if (PW.pt (pw_or (pt_cmpR op_eq (pv 0) pe_str (nomark _)) (pw_or1 (pt_not (pt_val (x_call G_is_text (hr.mono (by decide)) (by rfl) tk (pa_cons (pv 0) pa_nil))))))) (pss_one (x_raise rfl tk (F_exc_InvalidPath T) (F_glo_InvalidPath T) (by rfl))) pss_nil) (pss_one (ps_ret (x_call G_parts_of_text (hr.mono (by decide)) (by rfl) tk (pa_cons (pv 0) pa_nil))))))
theorem ok_G_read_target (T : TX K mg) : Gf P w K mg base 3 "read_target" ["text"] [] (sp_read_target K) := by
  obtain ⟨fd, F⟩ := f_read_target T
  obtain ⟨ds, hd, hb⟩ : ∃ ds, Vals ([] : List V) ds ∧ Binds K fd ["text"] ds := ⟨[], .nil, FunD.bindsN F fun _ _ _ _ _ _ us hl => match us, hl with | [_], _ => rfl⟩
  exact ⟨⟨fd, ds, fok_read_target T F, hb, hd⟩, F_glo_read_target T, F.kp⟩
theorem fok_Path___init__ (T : TX K mg) {fd : FuncData} (F : FunS K d_Path___init__ fd) : FnOk P w K mg base (L2.CX P w) 1 (He.ma K (He.ga K "Path") "__init__") fd ["self", "parts", "closed"] (sp_Path___init__ K) := by
  refine F.ok (CX := L2.CX P w) sc_Path___init__ (fun vs H Q E h => len_Path___init__ h) fun cdv A outer s H vs Q E hr h => ⟨t_Path___init__ K E, ?_, pure_Path___init__ h⟩
  refine tk_intro (E := E) (takes_of rfl rfl rfl rfl) fun tk => ?_
  exact (pss_cons (x_sfld (F_cls_Path T) (F_noat_Path_parts T) (pv 0) (pe_callTy x_listOf (by rfl) (F_free_list T) (by decide +kernel) (pa_cons (pv 1) pa_nil))) (pss_one (x_sfld (F_cls_Path T) (F_noat_Path_closed T) (pv 0) (pv 2))))
theorem ok_G_Path___init__ (T : TX K mg) : Gm P w K mg base 1 (He.ma K (He.ga K "Path") "__init__") ["self", "parts", "closed"] [] (sp_Path___init__ K) := by
  obtain ⟨fd, F⟩ := f_Path___init__ T
  obtain ⟨ds, hd, hb⟩ : ∃ ds, Vals ([] : List V) ds ∧ Binds K fd ["self", "parts", "closed"] ds := ⟨[], .nil, FunD.bindsN F fun _ _ _ _ _ _ us hl => match us, hl with | [_, _, _], _ => rfl⟩
  exact ⟨fd, ds, fok_Path___init__ T F, hb, hd⟩
theorem fok_read_path (T : TX K mg) {fd : FuncData} (F : FunS K d_read_path fd) : FnOk P w K mg base (L2.CX P w) 3 (He.ga K "read_path") fd ["text"] (sp_read_path K) := by
  have G_is_text := @ok_G_is_text P w K mg base T
  have G_parts_of_text := @ok_G_parts_of_text P w K mg base T
  have G_Path___init__ := @ok_G_Path___init__ P w K mg base T
  refine F.ok (CX := L2.CX P w) sc_read_path (fun vs H Q E h => len_read_path h) fun cdv A outer s H vs Q E hr h => ⟨t_read_path K E, ?_, pure_read_path h⟩
  refine tk_intro (E := E) (takes_of rfl rfl rfl rfl) fun tk => ?_
  exact (pss_cons (ps_if (pt_cmpR op_gt (pe_callB x_lenS (by rfl) (F_free_len T) (by decide +kernel) (pa_cons (pv 0) pa_nil)) (x_gint (by rfl) (F_int_MOST_PATH_200 T)) (nomark _)) (pss_one (x_raise rfl tk (F_exc_NameTooLong T) (F_glo_NameTooLong T) (by rfl))) pss_nil) (pss_cons (ps_if (PW.pt (pw_or (pt_cmpR op_ne (pe_slice x_slS (pv 0) po_none (po_some pe_int)) pe_str (nomark _)) (pw_or1 (pt_not (pt_val (x_call G_is_text (hr.mono (by decide)) (by rfl) tk (pa_cons (pv 0) pa_nil))))))) (pss_one (x_raise rfl tk (F_exc_InvalidPath T) (F_glo_InvalidPath T) (by rfl))) pss_nil) (pss_cons (ps_set (i := 1) sc_read_path.nd rfl (Or.inl rfl) (x_call G_parts_of_text (hr.mono (by decide)) (by rfl) tk (pa_cons (pv 0) pa_nil))) (pss_cons (ps_if (PW.pt (pw_or (pt_cmpR op_gt (pe_callB x_lenQ (by rfl) (F_free_len T) (by decide +kernel) (pa_cons (pv 1) pa_nil)) (x_gint (by rfl) (F_int_MOST_NAMES_16 T)) (nomark _)) (pw_or1 (pt_val (pe_callB (cr_any rfl) (by rfl) (F_free_any T) (by decide +kernel) (pa_cons (pe_lc (own := [(("part" : Str), 2)]) (g := (gName 2)) (tt := tYes) rfl sc_read_path.nd (pi_list (pv 1)) (blkOk_by (own := [(("part" : Str), 2)]) (N := N_read_path) (sc := defScope s_read_path) (by decide +kernel)) (fun _ _ _ _ _ => (pg_name (i := 2) sc_read_path.nd rfl (Or.inl rfl))) (fun _ _ _ _ _ => pts_nil) (fun _ _ _ _ _ => (pe_cmpR op_gt (pe_callB x_lenS (by rfl) (F_free_len T) (by decide +kernel) (pa_cons (pv 2) pa_nil)) (x_gint (by rfl) (F_int_MOST_NAME_28 T)) (nomark _)))) pa_nil)))))) (pss_one (x_raise rfl tk (F_exc_NameTooLong T) (F_glo_NameTooLong T) (by rfl))) pss_nil) (pss_one (ps_ret (x_make (F_mkr_Path T) G_Path___init__ (hr.mono (by decide)) (by rfl) (F_glo_Path T) tk (pa_cons (pv 1) (pa_cons (pe_and (pe_cmpR op_gt (pe_callB x_lenQ (by rfl) (F_free_len T) (by decide +kernel) (pa_cons (pv 1) pa_nil)) pe_int (nomark _)) (pe_one (pe_cmpR op_eq (pe_ix ix_str (pv 0) (pe_un un_neg pe_int) (fun _ _ => rfl)) pe_str (nomark _)))) pa_nil)))))))))
theorem ok_G_read_path (T : TX K mg) : Gf P w K mg base 3 "read_path" ["text"] [] (sp_read_path K) := by
  obtain ⟨fd, F⟩ := f_read_path T
  obtain ⟨ds, hd, hb⟩ : ∃ ds, Vals ([] : List V) ds ∧ Binds K fd ["text"] ds := ⟨[], .nil, FunD.bindsN F fun _ _ _ _ _ _ us hl => match us, hl with | [_], _ => rfl⟩
  exact ⟨⟨fd, ds, fok_read_path T F, hb, hd⟩, F_glo_read_path T, F.kp⟩
theorem fok__law_told (T : TX K mg) {fd : FuncData} (F : FunS K d__law_told fd) : FnOk P w K mg base (L2.CX P w) 4 (He.ga K "_law_told") fd ["_law_text_here", "_law_target"] (sp__law_told K) := by
  have G_read_target := @ok_G_read_target P w K mg base T
  have G_read_path := @ok_G_read_path P w K mg base T
  refine F.ok (CX := L2.CX P w) sc__law_told (fun vs H Q E h => len__law_told h) fun cdv A outer s H vs Q E hr h => ⟨t__law_told K E, ?_, pure__law_told ⟨F_exm_InvalidPath_SegmentError_True T, F_exm_NameTooLong_SegmentError_True T, F_excC_InvalidPath T, F_excC_NameTooLong T, F_kit_InvalidPath_InvalidPath_True T, F_kit_InvalidPath_NameTooLong_False T, F_kit_NameTooLong_InvalidPath_False T, F_kit_NameTooLong_NameTooLong_True T, F_kitTy_InvalidPath_ValueError_True T, F_kitTy_NameTooLong_ValueError_True T⟩ h⟩
  refine tk_intro (E := E) (takes_of rfl rfl rfl rfl) fun tk => ?_
  exact (pss_one (ps_try_as (i := 3) (tb := (fun W => (tSeq (tIfS (tB (tVar 1)) (tRet (tLst (tCons (tC (V.str "")) (tCons (tCallG (sp_read_target K) [] W (tCons (tVar 0) tNil)) (tCons (tC (V.bl false)) tNil))))) tNext) (tSeq (tAsg (tCallG (sp_read_path K) [] W (tCons (tVar 0) tNil)) (gName 2)) (tRet (tLst (tCons (tC (V.str "")) (tCons (tFldC (He.ga K "Path") (tVar 2) ("parts" : Str)) (tCons (tFldC (He.ga K "Path") (tVar 2) ("closed" : Str)) tNil))))))))) (ts := (fun a cls d => (tSeq (tAsg (tCB (rIsX K a cls d) (tCons (tVar 3) (tCons (tC (V.ref (He.ga K "NameTooLong"))) tNil))) (gName 4)) (tSeq (tIfS (tOr (tTest (tOp rEq (tVar 4) (tCB (rIsX K a cls d) (tCons (tVar 3) (tCons (tC (V.ref (He.ga K "InvalidPath"))) tNil))))) (tNot (tB (tCB (rIsX K a cls d) (tCons (tVar 3) (tCons (tC (V.ty "ValueError")) tNil)))))) (tRet (tLst (tCons (tC (V.str "wrong")) (tCons (tLst tNil) (tCons (tC (V.bl false)) tNil))))) tNext) (tRet (tLst (tCons (tOp (rIxL K) (tLst (tCons (tC (V.str "invalid")) (tCons (tC (V.str "long")) tNil))) (tCB rInt (tCons (tVar 4) tNil))) (tCons (tLst tNil) (tCons (tC (V.bl false)) tNil))))))))) (Wout := (WD E)) rfl rfl sc__law_told.nd rfl rfl ⟨rfl, by decide, .inl (F_glo_SegmentError T)⟩ tk (fun W pn xe tk1 po1 => (pss_cons (ps_if (pt_val (pv 1)) (pss_one (ps_ret (pe_lst (pa_cons pe_str (pa_cons (x_call G_read_target (hr.mono (by decide)) (by rfl) tk1 (pa_cons (pv 0) pa_nil)) (pa_cons pe_bl pa_nil)))))) pss_nil) (pss_cons (ps_set (i := 2) sc__law_told.nd rfl (Or.inl rfl) (x_call G_read_path (hr.mono (by decide)) (by rfl) tk1 (pa_cons (pv 0) pa_nil))) (pss_one (ps_ret (pe_lst (pa_cons pe_str (pa_cons (x_fld (F_cls_Path T) (F_noat_Path_parts T) (pv 2)) (pa_cons (x_fld (F_cls_Path T) (F_noat_Path_closed T) (pv 2)) pa_nil))))))))) (fun a oe cls d pn hz hf => (pss_cons (ps_set (i := 4) sc__law_told.nd rfl (Or.inl rfl) (pe_callB (x_isE hz hf) (by rfl) (F_free_isinstance T) (by decide +kernel) (pa_cons (pv 3) (pa_cons (x_gref (by rfl) (F_glo_NameTooLong T)) pa_nil)))) (pss_cons (ps_if (PW.pt (pw_or (pt_cmpR op_eq (pv 4) (pe_callB (x_isE hz hf) (by rfl) (F_free_isinstance T) (by decide +kernel) (pa_cons (pv 3) (pa_cons (x_gref (by rfl) (F_glo_InvalidPath T)) pa_nil))) (nomark _)) (pw_or1 (pt_not (pt_val (pe_callB (x_isE hz hf) (by rfl) (F_free_isinstance T) (by decide +kernel) (pa_cons (pv 3) (pa_cons (pe_bltn (v := .ty "ValueError") (by rfl) (F_free_ValueError T) (by decide +kernel) rfl) pa_nil)))))))) (pss_one (ps_ret (pe_lst (pa_cons pe_str (pa_cons (pe_lst pa_nil) (pa_cons pe_bl pa_nil)))))) pss_nil) (pss_one (ps_ret (pe_lst (pa_cons (pe_ix ix_list (pe_lst (pa_cons pe_str (pa_cons pe_str pa_nil))) (pe_callTy x_int (by rfl) (F_free_int T) (by decide +kernel) (pa_cons (pv 4) pa_nil)) (fun _ _ => rfl)) (pa_cons (pe_lst pa_nil) (pa_cons pe_bl pa_nil)))))))))))
theorem ok_G__law_told (T : TX K mg) : Gf P w K mg base 4 "_law_told" ["_law_text_here", "_law_target"] [] (sp__law_told K) := by
  obtain ⟨fd, F⟩ := f__law_told T
  obtain ⟨ds, hd, hb⟩ : ∃ ds, Vals ([] : List V) ds ∧ Binds K fd ["_law_text_here", "_law_target"] ds := ⟨[], .nil, FunD.bindsN F fun _ _ _ _ _ _ us hl => match us, hl with | [_, _], _ => rfl⟩
  exact ⟨⟨fd, ds, fok__law_told T F, hb, hd⟩, F_glo__law_told T, F.kp⟩
theorem fok__law_agrees (T : TX K mg) {fd : FuncData} (F : FunS K d__law_agrees fd) : FnOk P w K mg base (L2.CX P w) 5 (He.ga K "_law_agrees") fd ["_law_text_here", "_law_target"] (sp__law_agrees K) := by
  have G__law_due := @ok_G__law_due P w K mg base T
  have G__law_told := @ok_G__law_told P w K mg base T
  have G__law_parts := @ok_G__law_parts P w K mg base T
  refine F.ok (CX := L2.CX P w) sc__law_agrees (fun vs H Q E h => len__law_agrees h) fun cdv A outer s H vs Q E hr h => ⟨t__law_agrees K E, ?_, pure__law_agrees h⟩
  refine tk_intro (E := E) (takes_of rfl rfl rfl rfl) fun tk => ?_
  exact (pss_cons (ps_set (i := 2) sc__law_agrees.nd rfl (Or.inl rfl) (x_call G__law_due (hr.mono (by decide)) (by rfl) tk (pa_cons (pv 0) (pa_cons (pv 1) pa_nil)))) (pss_cons (ps_set (i := 3) sc__law_agrees.nd rfl (Or.inl rfl) (x_call G__law_told (hr.mono (by decide)) (by rfl) tk (pa_cons (pv 0) (pa_cons (pv 1) pa_nil)))) (pss_cons (ps_if (pt_cmpR op_ne (pe_ix ix_list (pv 3) pe_int (fun _ _ => rfl)) (pv 2) (nomark _)) (pss_one (ps_ret pe_bl)) pss_nil) (pss_cons (ps_if (pt_cmpR op_ne (pv 2) pe_str (nomark _)) (pss_one (ps_ret pe_bl)) pss_nil) (pss_cons (ps_set (i := 4) sc__law_agrees.nd rfl (Or.inl rfl) (x_call G__law_parts (hr.mono (by decide)) (by rfl) tk (pa_cons (pv 0) pa_nil))) (x_cut (ps_set (i := 5) sc__law_agrees.nd rfl (Or.inl rfl) (pe_and (pe_not (pv 1)) (pe_and (pe_cmpR op_gt (pe_callB x_lenQ (by rfl) (F_free_len T) (by decide +kernel) (pa_cons (pv 4) pa_nil)) pe_int (nomark _)) (pe_one (pe_cmpR op_eq (pe_ix ix_str (pv 0) (pe_un un_neg pe_int) (fun _ _ => rfl)) pe_str (nomark _)))))) (pss_one (ps_ret (pe_and (pe_callB call_isi (by rfl) (F_free_isinstance T) (by decide +kernel) (pa_cons (pe_ix ix_list (pv 3) pe_int (fun _ _ => rfl)) (pa_cons (pe_bltn (v := .ty "list") (by rfl) (F_free_list T) (by decide +kernel) rfl) pa_nil))) (pe_and (pe_cmpR (op_eqD hr.units) (pe_ix ix_list (pv 3) pe_int (fun _ _ => rfl)) (pv 4) (nomark _)) (pe_and (pe_callB call_isi (by rfl) (F_free_isinstance T) (by decide +kernel) (pa_cons (pe_ix ix_list (pv 3) pe_int (fun _ _ => rfl)) (pa_cons (pe_bltn (v := .ty "bool") (by rfl) (F_free_bool T) (by decide +kernel) rfl) pa_nil))) (pe_one (pe_cmpR op_eq (pe_ix ix_list (pv 3) pe_int (fun _ _ => rfl)) (pv 5) (nomark _))))))))))))))
theorem ok_G__law_agrees (T : TX K mg) : Gf P w K mg base 5 "_law_agrees" ["_law_text_here", "_law_target"] [] (sp__law_agrees K) := by
  obtain ⟨fd, F⟩ := f__law_agrees T
  obtain ⟨ds, hd, hb⟩ : ∃ ds, Vals ([] : List V) ds ∧ Binds K fd ["_law_text_here", "_law_target"] ds := ⟨[], .nil, FunD.bindsN F fun _ _ _ _ _ _ us hl => match us, hl with | [_, _], _ => rfl⟩
  exact ⟨⟨fd, ds, fok__law_agrees T F, hb, hd⟩, F_glo__law_agrees T, F.kp⟩
theorem fok__law_row (T : TX K mg) {fd : FuncData} (F : FunS K d__law_row fd) : FnOk P w K mg base (L2.CX P w) 1 (He.ga K "_law_row") fd ["_law_script", "_law_k"] (sp__law_row K) := by
  refine F.ok (CX := L2.CX P w) sc__law_row (fun vs H Q E h => len__law_row h) fun cdv A outer s H vs Q E hr h => ⟨t__law_row K E, ?_, pure__law_row h⟩
  refine tk_intro (E := E) (takes_of rfl rfl rfl rfl) fun tk => ?_
  exact (pss_cons (ps_set (i := 2) sc__law_row.nd rfl (Or.inl rfl) (pv 1)) (x_cut (ps_if (pt_cmpR op_gt (pe_callB x_lenQ (by rfl) (F_free_len T) (by decide +kernel) (pa_cons (pv 0) pa_nil)) pe_int (nomark _)) (pss_one (ps_set (i := 2) sc__law_row.nd rfl (Or.inl rfl) (pe_callTy x_int (by rfl) (F_free_int T) (by decide +kernel) (pa_cons (pe_ix ix_list (pv 0) (pe_op op_mod (pv 1) (pe_callB x_lenQ (by rfl) (F_free_len T) (by decide +kernel) (pa_cons (pv 0) pa_nil))) (fun _ _ => rfl)) pa_nil)))) pss_nil) (x_cut (ps_if (pt_cmpR op_lt (pv 2) pe_int (nomark _)) (pss_one (ps_set (i := 2) sc__law_row.nd rfl (Or.inl rfl) (pe_op op_sub (pe_op op_mul (pe_un un_neg pe_int) (pv 2)) pe_int))) pss_nil) (pss_cons (ps_if (PW.pt (pw_and (pt_cmpR op_lt (pv 1) (pe_callB x_lenQ (by rfl) (F_free_len T) (by decide +kernel) (pa_cons (pv 0) pa_nil)) (nomark _)) (pw_and1 (pt_cmpR op_ge (pv 2) (pe_op op_pow pe_int pe_int) (nomark _))))) (pss_one (ps_ret (pv 2))) pss_nil) (pss_cons (ps_set (i := 3) sc__law_row.nd rfl (Or.inl rfl) (pe_op op_mod (pe_callTy x_int (by rfl) (F_free_int T) (by decide +kernel) (pa_cons (pe_op op_add (pe_op op_add (pe_op op_mul (pv 2) pe_int) (pe_op op_mul (pv 1) pe_int)) pe_int) pa_nil)) pe_int)) (pss_cons (ps_set (i := 4) sc__law_row.nd rfl (Or.inl rfl) (pe_op op_mod (pe_callTy x_int (by rfl) (F_free_int T) (by decide +kernel) (pa_cons (pe_op op_add (pe_op op_add (pe_op op_add (pe_op op_mul (pv 3) pe_int) (pv 2)) (pe_op op_mul (pv 1) pe_int)) pe_int) pa_nil)) pe_int)) (pss_cons (ps_set (i := 3) sc__law_row.nd rfl (Or.inl rfl) (pe_op op_mod (pe_callTy x_int (by rfl) (F_free_int T) (by decide +kernel) (pa_cons (pe_op op_add (pe_op op_add (pe_op op_mul (pv 3) pe_int) (pe_op op_mul (pv 4) pe_int)) (pv 1)) pa_nil)) pe_int)) (pss_one (ps_ret (pe_op op_add (pe_op op_mul (pv 4) pe_int) (pv 3)))))))))))
theorem ok_G__law_row (T : TX K mg) : Gf P w K mg base 1 "_law_row" ["_law_script", "_law_k"] [] (sp__law_row K) := by
  obtain ⟨fd, F⟩ := f__law_row T
  obtain ⟨ds, hd, hb⟩ : ∃ ds, Vals ([] : List V) ds ∧ Binds K fd ["_law_script", "_law_k"] ds := ⟨[], .nil, FunD.bindsN F fun _ _ _ _ _ _ us hl => match us, hl with | [_, _], _ => rfl⟩
  exact ⟨⟨fd, ds, fok__law_row T F, hb, hd⟩, F_glo__law_row T, F.kp⟩
theorem fok__law_char (T : TX K mg) {fd : FuncData} (F : FunS K d__law_char fd) : FnOk P w K mg base (L2.CX P w) 1 (He.ga K "_law_char") fd ["_law_number"] (sp__law_char K) := by
  refine F.ok (CX := L2.CX P w) sc__law_char (fun vs H Q E h => len__law_char h) fun cdv A outer s H vs Q E hr h => ⟨t__law_char K E, ?_, pure__law_char h⟩
  refine tk_intro (E := E) (takes_of rfl rfl rfl rfl) fun tk => ?_
  exact (pss_cons (ps_set (i := 1) sc__law_char.nd rfl (Or.inl rfl) pe_str) (pss_cons (ps_set (i := 1) sc__law_char.nd rfl (Or.inl rfl) (pe_op x_addS (pv 1) pe_str)) (pss_one (ps_ret (pe_ix ix_str (pv 1) (pe_op op_mod (pe_callTy x_int (by rfl) (F_free_int T) (by decide +kernel) (pa_cons (pv 0) pa_nil)) pe_int) (fun _ _ => rfl))))))
theorem ok_G__law_char (T : TX K mg) : Gf P w K mg base 1 "_law_char" ["_law_number"] [] (sp__law_char K) := by
  obtain ⟨fd, F⟩ := f__law_char T
  obtain ⟨ds, hd, hb⟩ : ∃ ds, Vals ([] : List V) ds ∧ Binds K fd ["_law_number"] ds := ⟨[], .nil, FunD.bindsN F fun _ _ _ _ _ _ us hl => match us, hl with | [_], _ => rfl⟩
  exact ⟨⟨fd, ds, fok__law_char T F, hb, hd⟩, F_glo__law_char T, F.kp⟩
theorem fok__law_text (T : TX K mg) {fd : FuncData} (F : FunS K d__law_text fd) : FnOk P w K mg base (L2.CX P w) 2 (He.ga K "_law_text") fd ["_law_number", "_law_count"] (sp__law_text K) := by
  have G__law_char := @ok_G__law_char P w K mg base T
  refine F.ok (CX := L2.CX P w) sc__law_text (fun vs H Q E h => len__law_text h) fun cdv A outer s H vs Q E hr h => ⟨t__law_text K E, ?_, pure__law_text h⟩
  refine tk_intro (E := E) (takes_of rfl rfl rfl rfl) fun tk => ?_
  exact (pss_cons (ps_set (i := 2) sc__law_text.nd rfl (Or.inl rfl) pe_str) (pss_cons (ps_set (i := 0) sc__law_text.nd rfl (Or.inl rfl) (pe_callTy x_int (by rfl) (F_free_int T) (by decide +kernel) (pa_cons (pv 0) pa_nil))) (pss_cons (ps_for (passes_of rfl) rfl (pi_range1 (by rfl) (F_free_range T) (pa_cons (pv 1) pa_nil)) (pg_name (i := 3) sc__law_text.nd rfl (Or.inl rfl)) (pss_cons (ps_set (i := 2) sc__law_text.nd rfl (Or.inl rfl) (pe_op x_addS (pv 2) (x_call G__law_char (hr.mono (by decide)) (by rfl) tk (pa_cons (pe_op op_fdiv (pv 0) pe_int) pa_nil)))) (pss_one (ps_if (pt_cmpR op_lt (pe_op op_mod (pv 3) pe_int) pe_int (nomark _)) (pss_one (ps_set (i := 0) sc__law_text.nd rfl (Or.inl rfl) (pe_op op_fdiv (pv 0) pe_int))) (pss_one (ps_set (i := 0) sc__law_text.nd rfl (Or.inl rfl) (pe_op op_add (pe_op op_mul (pv 0) pe_int) (pv 3)))))))) (pss_one (ps_ret (pv 2))))))
theorem ok_G__law_text (T : TX K mg) : Gf P w K mg base 2 "_law_text" ["_law_number", "_law_count"] [] (sp__law_text K) := by
  obtain ⟨fd, F⟩ := f__law_text T
  obtain ⟨ds, hd, hb⟩ : ∃ ds, Vals ([] : List V) ds ∧ Binds K fd ["_law_number", "_law_count"] ds := ⟨[], .nil, FunD.bindsN F fun _ _ _ _ _ _ us hl => match us, hl with | [_, _], _ => rfl⟩
  exact ⟨⟨fd, ds, fok__law_text T F, hb, hd⟩, F_glo__law_text T, F.kp⟩
theorem fok__law_string (T : TX K mg) {fd : FuncData} (F : FunS K d__law_string fd) : FnOk P w K mg base (L2.CX P w) 3 (He.ga K "_law_string") fd ["_law_script", "_law_k"] (sp__law_string K) := by
  have G__law_row := @ok_G__law_row P w K mg base T
  have G__law_text := @ok_G__law_text P w K mg base T
  refine F.ok (CX := L2.CX P w) sc__law_string (fun vs H Q E h => len__law_string h) fun cdv A outer s H vs Q E hr h => ⟨t__law_string K E, ?_, pure__law_string h⟩
  refine tk_intro (E := E) (takes_of rfl rfl rfl rfl) fun tk => ?_
  exact (pss_cons (ps_set (i := 2) sc__law_string.nd rfl (Or.inl rfl) (x_call G__law_row (hr.mono (by decide)) (by rfl) tk (pa_cons (pv 0) (pa_cons (pv 1) pa_nil)))) (pss_cons (ps_set (i := 3) sc__law_string.nd rfl (Or.inl rfl) (pe_op op_fdiv (pe_callTy x_int (by rfl) (F_free_int T) (by decide +kernel) (pa_cons (pv 2) pa_nil)) pe_int)) (pss_cons (ps_set (i := 4) sc__law_string.nd rfl (Or.inl rfl) pe_str) (pss_cons (ps_for (passes_of rfl) rfl (pi_range1 (by rfl) (F_free_range T) (pa_cons (pe_ix ix_list (pe_lst (pa_cons (pe_op op_mod (pe_callTy x_int (by rfl) (F_free_int T) (by decide +kernel) (pa_cons (pv 2) pa_nil)) pe_int) (pa_cons (pe_op op_mod (pe_callTy x_int (by rfl) (F_free_int T) (by decide +kernel) (pa_cons (pv 2) pa_nil)) pe_int) (pa_cons pe_int (pa_cons pe_int pa_nil))))) (pe_op op_mod (pe_op op_fdiv (pe_callTy x_int (by rfl) (F_free_int T) (by decide +kernel) (pa_cons (pv 2) pa_nil)) pe_int) pe_int) (fun _ _ => rfl)) pa_nil)) (pg_name (i := 5) sc__law_string.nd rfl (Or.inl rfl)) (pss_cons (ps_set (i := 6) sc__law_string.nd rfl (Or.inl rfl) (x_call G__law_text (hr.mono (by decide)) (by rfl) tk (pa_cons (pv 3) (pa_cons (pe_ix ix_list (pe_lst (pa_cons pe_int (pa_cons (pe_op op_add pe_int (pe_op op_mod (pv 3) pe_int)) (pa_cons pe_int (pa_cons pe_int pa_nil))))) (pe_ix ix_list (pe_lst (pa_cons pe_int (pa_cons pe_int (pa_cons pe_int (pa_cons pe_int (pa_cons pe_int (pa_cons pe_int (pa_cons pe_int (pa_cons pe_int (pa_cons pe_int (pa_cons pe_int (pa_cons pe_int pa_nil)))))))))))) (pe_op op_mod (pv 3) pe_int) (fun _ _ => rfl)) (fun _ _ => rfl)) pa_nil)))) (pss_cons (ps_set (i := 4) sc__law_string.nd rfl (Or.inl rfl) (pe_opT x_addS (pek_opR x_addS (pv 4) (pek_opL x_repS pek_str (pe_op op_add pe_int (pe_callTy x_int (by rfl) (F_free_int T) (by decide +kernel) (pa_cons (pe_cmpR op_eq (pe_op op_mod (pv 3) pe_int) pe_int (nomark _)) pa_nil))))) (pet_repl (pv 6)))) (pss_one (ps_set (i := 3) sc__law_string.nd rfl (Or.inl rfl) (pe_op op_add (pe_op op_fdiv (pv 3) pe_int) (pe_op op_mul pe_int (pv 5)))))))) (x_cut (ps_if (pt_cmpR op_eq (pe_op op_mod (pe_op op_fdiv (pe_callTy x_int (by rfl) (F_free_int T) (by decide +kernel) (pa_cons (pv 2) pa_nil)) pe_int) pe_int) pe_int (nomark _)) (pss_one (ps_set (i := 4) sc__law_string.nd rfl (Or.inl rfl) (pe_slice x_slS (pv 4) (po_some pe_int) po_none))) pss_nil) (x_cut (ps_if (pt_cmpR op_eq (pe_op op_mod (pe_op op_fdiv (pe_callTy x_int (by rfl) (F_free_int T) (by decide +kernel) (pa_cons (pv 2) pa_nil)) pe_int) pe_int) pe_int (nomark _)) (pss_one (ps_set (i := 4) sc__law_string.nd rfl (Or.inl rfl) (pe_op x_addS (pv 4) pe_str))) pss_nil) (x_cut (ps_if (pt_cmpR op_eq (pe_op op_mod (pe_op op_fdiv (pe_callTy x_int (by rfl) (F_free_int T) (by decide +kernel) (pa_cons (pv 2) pa_nil)) pe_int) pe_int) pe_int (nomark _)) (pss_cons (ps_set (i := 7) sc__law_string.nd rfl (Or.inl rfl) (pe_op op_mod (pv 3) (pe_op op_add (pe_callB x_lenS (by rfl) (F_free_len T) (by decide +kernel) (pa_cons (pv 4) pa_nil)) pe_int))) (pss_one (ps_set (i := 4) sc__law_string.nd rfl (Or.inl rfl) (pe_op x_addS (pe_op x_addS (pe_slice x_slS (pv 4) po_none (po_some (pv 7))) (pe_ix ix_str pe_str (pe_op op_mod (pe_op op_fdiv (pv 3) pe_int) pe_int) (fun _ _ => rfl))) (pe_slice x_slS (pv 4) (po_some (pv 7)) po_none))))) pss_nil) (x_cut (ps_if (pt_cmpR op_eq (pe_op op_mod (pe_op op_fdiv (pe_callTy x_int (by rfl) (F_free_int T) (by decide +kernel) (pa_cons (pv 2) pa_nil)) pe_int) pe_int) pe_int (nomark _)) (pss_cons (ps_set (i := 4) sc__law_string.nd rfl (Or.inl rfl) (pe_op x_addS (pe_op x_repS pe_str pe_int) (pe_slice x_slS pe_str po_none (po_some (pe_op op_mod (pv 3) pe_int))))) (pss_one (ps_set (i := 4) sc__law_string.nd rfl (Or.inl rfl) (pe_slice x_slS (pv 4) po_none (po_some (pe_op op_add pe_int (pe_op op_mod (pe_op op_fdiv (pv 3) pe_int) pe_int))))))) pss_nil) (pss_one (ps_ret (pv 4)))))))))))
theorem ok_G__law_string (T : TX K mg) : Gf P w K mg base 3 "_law_string" ["_law_script", "_law_k"] [] (sp__law_string K) := by
  obtain ⟨fd, F⟩ := f__law_string T
  obtain ⟨ds, hd, hb⟩ : ∃ ds, Vals ([] : List V) ds ∧ Binds K fd ["_law_script", "_law_k"] ds := ⟨[], .nil, FunD.bindsN F fun _ _ _ _ _ _ us hl => match us, hl with | [_, _], _ => rfl⟩
  exact ⟨⟨fd, ds, fok__law_string T F, hb, hd⟩, F_glo__law_string T, F.kp⟩
theorem fok_law (T : TX K mg) {fd : FuncData} (F : FunS K d_law fd) : FnOk P w K mg base (L2.CX P w) 6 (He.ga K "law") fd ["_law_script"] (sp_law K) := by
  have G__law_agrees := @ok_G__law_agrees P w K mg base T
  have G__law_string := @ok_G__law_string P w K mg base T
  have G_read_path := @ok_G_read_path P w K mg base T
  have G_Path___init__ := @ok_G_Path___init__ P w K mg base T
  refine F.ok (CX := L2.CX P w) sc_law (fun vs H Q E h => len_law h) fun cdv A outer s H vs Q E hr h => ⟨t_law K E, ?_, pure_law h⟩
  refine tk_intro (E := E) (takes_of rfl rfl rfl rfl) fun tk => ?_
  exact (pss_cons (ps_if (pt_cmpR (op_neD hr.units) (pe_lst (pa_cons (x_gint (by rfl) (F_int_MOST_NAME_28 T)) (pa_cons (x_gint (by rfl) (F_int_MOST_PATH_200 T)) (pa_cons (x_gint (by rfl) (F_int_MOST_NAMES_16 T)) (pa_cons (x_gint (by rfl) (F_int_MOST_FOLLOWED_8 T)) (pa_cons (x_gint (by rfl) (F_int_MOST_LINKS_40 T)) pa_nil)))))) (pe_lst (pa_cons pe_int (pa_cons pe_int (pa_cons pe_int (pa_cons pe_int (pa_cons pe_int pa_nil)))))) (nomark _)) (pss_one (ps_ret pe_bl)) pss_nil) (pss_cons (ps_for (passes_of rfl) rfl (pi_list (pe_lst (pa_cons pe_str (pa_cons pe_str (pa_cons pe_str (pa_cons pe_str (pa_cons pe_str (pa_cons pe_str (pa_cons pe_str (pa_cons (pe_op x_addS pe_str (pe_op x_repS pe_str pe_int)) (pa_cons (pe_op x_addS pe_str (pe_op x_repS pe_str pe_int)) (pa_cons (pe_op x_repS pe_str pe_int) (pa_cons (pe_op x_addS (pe_op x_repS pe_str pe_int) pe_str) pa_nil))))))))))))) (pg_name (i := 1) sc_law.nd rfl (Or.inl rfl)) (pss_one (ps_if (PW.pt (pw_or (pt_not (pt_val (x_call G__law_agrees (hr.mono (by decide)) (by rfl) tk (pa_cons (pv 1) (pa_cons pe_bl pa_nil))))) (pw_or1 (pt_not (pt_val (x_call G__law_agrees (hr.mono (by decide)) (by rfl) tk (pa_cons (pv 1) (pa_cons pe_bl pa_nil)))))))) (pss_one (ps_ret pe_bl)) pss_nil))) (pss_cons (ps_for (passes_of rfl) rfl (pi_list (pe_lst (pa_cons (pe_op x_repS pe_str pe_int) (pa_cons (pe_op x_repS pe_str pe_int) (pa_cons (pe_op x_addS (pe_op x_addS pe_str (pe_op x_repS pe_str pe_int)) pe_str) (pa_cons (pe_op x_addS pe_str (pe_op x_repS pe_str pe_int)) (pa_cons (pe_op x_addS pe_str (pe_op x_repS pe_str pe_int)) pa_nil))))))) (pg_name (i := 1) sc_law.nd rfl (Or.inl rfl)) (pss_one (ps_if (PW.pt (pw_or (pt_not (pt_val (x_call G__law_agrees (hr.mono (by decide)) (by rfl) tk (pa_cons (pv 1) (pa_cons pe_bl pa_nil))))) (pw_or1 (pt_not (pt_val (x_call G__law_agrees (hr.mono (by decide)) (by rfl) tk (pa_cons (pv 1) (pa_cons pe_bl pa_nil)))))))) (pss_one (ps_ret pe_bl)) pss_nil))) (pss_cons (ps_for (passes_of rfl) rfl (pi_range1 (by rfl) (F_free_range T) (pa_cons pe_int pa_nil)) (pg_name (i := 2) sc_law.nd rfl (Or.inl rfl)) (pss_cons (ps_set (i := 1) sc_law.nd rfl (Or.inl rfl) (x_call G__law_string (hr.mono (by decide)) (by rfl) tk (pa_cons (pv 0) (pa_cons (pv 2) pa_nil)))) (pss_one (ps_if (PW.pt (pw_or (pt_not (pt_val (x_call G__law_agrees (hr.mono (by decide)) (by rfl) tk (pa_cons (pv 1) (pa_cons pe_bl pa_nil))))) (pw_or1 (pt_not (pt_val (x_call G__law_agrees (hr.mono (by decide)) (by rfl) tk (pa_cons (pv 1) (pa_cons pe_bl pa_nil)))))))) (pss_one (ps_ret pe_bl)) pss_nil)))) (pss_cons (ps_set (i := 3) sc_law.nd rfl (Or.inl rfl) (x_call G_read_path (hr.mono (by decide)) (by rfl) tk (pa_cons pe_str pa_nil))) (pss_cons (ps_expr (pe_bm PySem.F.plainAttrs_list PySem.F.slot_list_append PySem.F.type_list_append mt_append (x_fld (F_cls_Path T) (F_noat_Path_parts T) (pv 3)) (pa_cons pe_str pa_nil))) (pss_cons (ps_set (i := 4) sc_law.nd rfl (Or.inl rfl) (pe_lst (pa_cons pe_str pa_nil))) (pss_cons (ps_set (i := 5) sc_law.nd rfl (Or.inl rfl) (x_make (F_mkr_Path T) G_Path___init__ (hr.mono (by decide)) (by rfl) (F_glo_Path T) tk (pa_cons (pv 4) (pa_cons pe_bl pa_nil)))) (pss_cons (ps_expr (pe_bm PySem.F.plainAttrs_list PySem.F.slot_list_append PySem.F.type_list_append mt_append (pv 4) (pa_cons pe_str pa_nil))) (pss_one (ps_ret (pe_and (pe_cmpR (op_eqD hr.units) (x_fld (F_cls_Path T) (F_noat_Path_parts T) (x_call G_read_path (hr.mono (by decide)) (by rfl) tk (pa_cons pe_str pa_nil))) (pe_lst (pa_cons pe_str (pa_cons pe_str pa_nil))) (nomark _)) (pe_and (pe_cmpR (op_eqD hr.units) (x_fld (F_cls_Path T) (F_noat_Path_parts T) (pv 5)) (pe_lst (pa_cons pe_str pa_nil)) (nomark _)) (pe_one (pe_cmpR op_isBl (x_fld (F_cls_Path T) (F_noat_Path_closed T) (pv 5)) pe_bl (nomark _))))))))))))))))
end
def loose0 : List Str := ["__name__", "SegmentError", "InvalidPath", "NameTooLong", "PERCENT", "is_code", "is_text", "MOST_NAME", "MOST_PATH", "MOST_NAMES", "MOST_FOLLOWED", "MOST_LINKS", "Path", "parts_of_text", "read_path", "read_target", "_law_row", "_law_char", "_law_text", "_law_parts", "_law_bad", "_law_due", "_law_told", "_law_agrees", "_law_string"]
abbrev loose : List Str := loose0
abbrev R : PySem.W.OpenRow := PySem.W.OpenLaw.row PySem.Challenge.rw_segmentfs_k54_read_paths
abbrev vw : Program := PySem.W.view R.prog [28]
abbrev hk : PySem.W.Hook := hookS 5 bits fns
def ob (s : PySem.W.SharedT) : He.AlD := obsSG 5 bits fns (HandSHeadRun.getT s)
theorem ob_eq (s : PySem.W.SharedT) : ob s = hk.obs s.abs := obsSG_eq (HandSHeadRun.getT_eq s)
theorem run (w : World) : HandSHeadRun.RunEq R vw hk ob 6000 loose w := by
  intro os
  kernel_rfl
theorem facts {P : Program} {w : World} {K : Frag} {h : Heap} {mg : Str → Option Value} {f : Addr} (X : K.In h) (G : h.Ns mainGlobals mg) (hfa : mg ("law" : Str) = some (.ref f)) (c : SaysS bits fns K) :
    ∃ fd : FuncData, (∀ (s : Shared) (v : Value), BindsTo s fd ⟨[v], []⟩ [("_law_script", v)]) ∧ ∀ base : Heap, K.In base → base.Ns mainGlobals mg → FnOk P w K mg base CX0 6 f fd ["_law_script"] (fun vs H Q _ => sp_law K vs H Q E0) := by
  have T : TX K mg := ⟨c, h, X, G⟩
  obtain ⟨fd, F⟩ := f_law T
  have e := hfa.symm.trans (F_glo_law T)
  cases e
  have b := FunD.bindsA (ps := ["_law_script"]) F fun _ _ _ _ _ _ us hl => match us, hl with | [_], _ => rfl
  exact ⟨fd, fun s v => b s [v] rfl, fun base _ _ => Sg.FnOk.e0 (fok_law (base := base) T F)⟩
end Sg
open PySem PySem.W PySem.Calls PyProof.Rows Sg
theorem PySem.Challenge.cw_segmentfs_k54_read_paths_holds : PySem.Challenge.rw_segmentfs_k54_read_paths.Holds := by
  w_on; o_law
  refine HandSHeadRun.head_any (r := OpenLaw.row PySem.Challenge.rw_segmentfs_k54_read_paths) (q := view (OpenLaw.row PySem.Challenge.rw_segmentfs_k54_read_paths).prog [28]) (H := Sg.hk) (ob := Sg.ob) (M := 6000) (loose := Sg.loose) (d := HandSHeadRun.topDef (OpenLaw.row PySem.Challenge.rw_segmentfs_k54_read_paths).prog 28) (kwd := []) Sg.ob_eq
    (by kernel_rfl) (fun s => by kernel_rfl) Sg.run (by kernel_rfl) (by kernel_rfl) (by kernel_rfl) (by rfl) (by first | assumption | decide +kernel) (by decide +kernel) ⟨rfl, rfl, rfl, rfl, rfl, by decide +kernel⟩ ?hw ?hc
  case hw => w_witness2
  case hc =>
    refine L2.walk_ofE (l := PySem.Challenge.rw_segmentfs_k54_read_paths) (n := 63) (k := 6) (x := "_law_script") (CX := L2.CX0) rfl (by decide) (by kernel_rfl) ⟨rfl, by decide, by decide⟩ ?F (fun _ _ _ _ z => z)
    intro w mg fa h Y G hmg0
    obtain ⟨K, KX, c⟩ := Y
    have hmg : mg ("law" : PySem.Str) = some (.ref fa) := by
      have e : (HandSHeadRun.topDef (OpenLaw.row PySem.Challenge.rw_segmentfs_k54_read_paths).prog 28).name = ("law" : PySem.Str) := by kernel_rfl
      rw [← e]
      exact hmg0
    obtain ⟨fd, hb, hF⟩ := Sg.facts (P := (PySem.Challenge.rw_segmentfs_k54_read_paths).prog) (w := w) KX G hmg c
    exact ⟨K, fd, _, KX, hb, fun H a ns hl hO hS => ⟨a, ns, rfl, hS, fun _ => rfl⟩, hF⟩
