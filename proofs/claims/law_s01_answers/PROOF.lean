import PyProof.Rows.All
import PySem.Challenge.RW_buildanswers_s01_answers
import Wide.All
import OpenK.AllK
import Wide.FinOn
import PyProof.EqAt
import PyProof.EqKinds
import PyProof.TupleCall
import Open.SpecLaws
import KE.OsGo
import KE.KNestM
import HandS.ForSpec
import HandS.Evl
import HandS.Comp
import HandS.Iter
import HandS.Style
import HandS.Deep
import HandS.SortInts
import HandS.Dict
import HandS.TupLen
import HandS.Remove
import HandS.Wide
import HandS.Strs
import HandS.Lambda
import HandS.SortOrd
import HandS.Text
import HandS.ExcInit
import HandS.ExcSuper
import VamvsdSpec
import VamvsdNeutral
import PyVamvsd
import HandS.SetFor
import HandS.Nested
import HandS.ExcValue
import KE.SortKeyHeap
import PyProof.Rows.SetFrom
import PyProof.Rows.ChunkEnd
import HandS.Spec
import HandS.EndTab
set_option Elab.async false
set_option linter.all false
set_option maxRecDepth 100000
set_option maxHeartbeats 8000000
namespace BA
open PySem PySem.Spec PyProof.Rows L2 Evl

/-! ### a def that keeps its promise, with how it is called -/
structure Good (P : Program) (w : World) (K : PySem.W.Frag) (mg : Str → Option Value) (base : Heap) (k : Nat) (f : Addr) (ps : List Str) (sp : Sp) : Prop where
  ex : ∃ fd : FuncData, FnOk P w K mg base (L2.CX P w) k f fd ps sp ∧ Binds K fd ps []
  kp : PySem.W.keepIn K (.ref f) = true
theorem px0 {X : Cx} : ∀ σ : L2.St, PassesAt (L2.CX X.prog X.w) X σ E0 := fun _ _ _ _ _ _ _ h => by
  obtain ⟨_, _, _, _, _, _, _, _, _, _, _, _, z⟩ := h
  exact z.elim
theorem pxt {X : Cx} {E : XK} (tk : Takes X (fun cls d _ H => E cls d H)) : ∀ σ : L2.St, PassesAt (L2.CX X.prog X.w) X σ E := fun σ => passAt tk σ
/-- f(e, ..) -/
def tG (sp : Sp) (E : L2.St → XK) (t : TA) : TE := fun σ H Q => t σ H fun vs H1 => sp vs H1 Q (E σ)
/-- o.m(e, ..) -/
def tGM (C : Addr) (m : Str) (sp : Sp) (E : L2.St → XK) (ta : TE) (t : TA) : TE := fun σ H Q => ta σ H fun x H1 => ∃ a dx fs, x = .ref a ∧ H1 a = some (.ins C dx fs) ∧ fs.lookup m = none ∧
  t σ H1 fun vs H2 => sp (x :: vs) H2 Q (E σ)
/-- C(e, ..) -/
def tGC (C : Addr) (sp : Sp) (t : TA) : TE := fun σ H Q => t σ H fun vs H1 => ∀ x dx, H1 x = none → H1 dx = none → dx ≠ x →
  sp (.ref x :: vs) (upd (upd H1 dx (.own x)) x (.ins C dx [])) (fun v H2 => v = .non ∧ Q (.ref x) H2) E0
section
variable {X : Cx} {k : Nat} {f C : Addr} {ps : List Str} {sp : Sp} {E : L2.St → XK} {x m : Str} {p pos apos : Pos} {e o : Expr} {es : List Expr} {ta : TE} {t : TA}
theorem pe_g (G : Good X.prog X.w X.K X.mg X.base k f ps sp) (hr : Room k X.A) (hg : Gl X x) (hm : X.mg x = some (.ref f)) (hx : ∀ σ, PassesAt (L2.CX X.prog X.w) X σ (E σ)) (ha : PA X (e :: es) t)
    (hdb : (x == ("__debug__" : Str)) = false := by decide) (he : starEach (e :: es) X.env = (false, eval e X.env) :: starEach es X.env := by rfl) (hpl : (backTo pos (starEach es X.env)).any (·.1) = false := by rfl) :
    PE X (.Call (.Name x p) (e :: es) [] pos) (tG sp E t) := by
  obtain ⟨fd, F, hb⟩ := G.ex
  exact pe_callS F hr hg hm G.kp hb hx ha hdb he hpl
theorem pe_gm {pl : Sem Bool} (G : Good X.prog X.w X.K X.mg X.base k f ps sp) (he : PE X o ta) (c : Cls X.K C) (hm : Meth X.K C m f) (hr : Room k X.A) (hx : ∀ σ, PassesAt (L2.CX X.prog X.w) X σ (E σ)) (ha : PA X (e :: es) t)
    (hst : starEach (e :: es) X.env = (false, eval e X.env) :: starEach es X.env := by rfl) (hpl : (backTo pos (starEach es X.env)).any (·.1) = false := by rfl)
    (ht : eval (.Call (.Attribute o m apos) (e :: es) [] pos) X.env = (do
      let ov ← eval o X.env
      standAt apos.atName
      let (f, first) ← holding [ov] (getMethod ov m pl)
      callWith pos f first (backTo pos (starEach (e :: es) X.env)) (backToKw pos (keywordEach [] X.env))) := by rfl) :
    PE X (.Call (.Attribute o m apos) (e :: es) [] pos) (tGM C m sp E ta t) := by
  obtain ⟨fd, F, hb⟩ := G.ex
  refine ⟨fun pins s σ H Q I h => ?_⟩
  refine PySem.W.methodCall_KW (pl := pl) (thn (he.run pins s σ H _ I h) fun u s1 ⟨x, H1, I1, rx, a, dx, fs, ex, ea, l, q⟩ => ?_) ht
  subst ex
  obtain rfl : u = Value.ref a := rx
  refine getmeth_ok I1 ea c hm l ?_
  refine PySem.W.callWith_K (first := [.ref a]) (h₀ := X.base) I.ok.mod.kin hm.kp (thn (ha.run pos pins s1 σ H1 _ I1 q) fun us s2 ⟨vs, H2, I2, r, q2⟩ => ⟨I2.kIn, ?_⟩) hst hpl
  exact run_fnS (us := .ref a :: us) (vs := .ref a :: vs) F hr hb (hx σ) I2 (.cons rfl r) q2
theorem pe_gm0 {pl : Sem Bool} (G : Good X.prog X.w X.K X.mg X.base k f ps sp) (he : PE X o ta) (c : Cls X.K C) (hm : Meth X.K C m f) (hr : Room k X.A) (hx : ∀ σ, PassesAt (L2.CX X.prog X.w) X σ (E σ))
    (ht : eval (.Call (.Attribute o m apos) [] [] pos) X.env = (do
      let ov ← eval o X.env
      standAt apos.atName
      let (f, first) ← holding [ov] (getMethod ov m pl)
      callWith pos f first (backTo pos (starEach [] X.env)) (backToKw pos (keywordEach [] X.env))) := by rfl) :
    PE X (.Call (.Attribute o m apos) [] [] pos) (tGM C m sp E ta tNil) := by
  obtain ⟨fd, F, hb⟩ := G.ex
  refine ⟨fun pins s σ H Q I h => ?_⟩
  refine PySem.W.methodCall_KW (pl := pl) (thn (he.run pins s σ H _ I h) fun u s1 ⟨x, H1, I1, rx, a, dx, fs, ex, ea, l, q⟩ => ?_) ht
  subst ex
  obtain rfl : u = Value.ref a := rx
  refine getmeth_ok I1 ea c hm l ?_
  exact PySem.W.callWith_K0 (first := [.ref a]) I1.kIn hm.kp (run_fnS (us := [.ref a]) (vs := [.ref a]) F hr hb (hx σ) I1 (.cons rfl .nil) q)
theorem run_gc {pins : List (Addr × Obj)} {σ : L2.St} {H : Hp} {s : Shared} {Q : VK} {us : List Value} {vs : List V} (G : Good X.prog X.w X.K X.mg X.base k f ps sp) (M : Mk X.K C f) (hr : Room (k + 1) X.A) (I : Inv X pins σ H s) (r : Vals vs us)
    (h : ∀ x dx, H x = none → H dx = none → dx ≠ x → sp (.ref x :: vs) (upd (upd H dx (.own x)) x (.ins C dx [])) (fun v H2 => v = .non ∧ Q (.ref x) H2) E0) : wpAny (model X.prog X.w) X.A (call (.ref C) us) (EP X pins σ Q) X.xe s := by
  obtain ⟨fd, F, hb⟩ := G.ex
  refine run_make M F hr hb .nil passL I r fun x dx h1 h2 h3 => ?_
  rw [List.append_nil]
  exact h x dx h1 h2 h3
theorem pe_gc (G : Good X.prog X.w X.K X.mg X.base k f ps sp) (M : Mk X.K C f) (hr : Room (k + 1) X.A) (hg : Gl X x) (hm : X.mg x = some (.ref C)) (ha : PA X (e :: es) t)
    (hdb : (x == ("__debug__" : Str)) = false := by decide) (he : starEach (e :: es) X.env = (false, eval e X.env) :: starEach es X.env := by rfl) (hpl : (backTo pos (starEach es X.env)).any (·.1) = false := by rfl) :
    PE X (.Call (.Name x p) (e :: es) [] pos) (tGC C sp t) := by
  refine ⟨fun pins s σ H Q I h => ?_⟩
  refine wpAny_Call_Name_kw (ld_glob I hg hm ?_ hdb)
  refine PySem.W.callWith_K (h₀ := X.base) I.ok.mod.kin M.kp (thn (ha.run pos pins s σ H _ I h) fun us s1 ⟨vs, H1, I1, r, q⟩ => ⟨I1.kIn, ?_⟩) he hpl
  exact run_gc G M hr I1 r q
theorem pe_gc0 (G : Good X.prog X.w X.K X.mg X.base k f ps sp) (M : Mk X.K C f) (hr : Room (k + 1) X.A) (hg : Gl X x) (hm : X.mg x = some (.ref C))
    (hdb : (x == ("__debug__" : Str)) = false := by decide) : PE X (.Call (.Name x p) [] [] pos) (tGC C sp tNil) := by
  refine ⟨fun pins s σ H Q I h => ?_⟩
  refine wpAny_Call_Name_kw (ld_glob I hg hm ?_ hdb)
  exact PySem.W.callWith_K0 I.kIn M.kp (run_gc (us := []) G M hr I .nil h)
end

/-! ### the text by places -/
def top (i : Nat) : Stmt := PySem.Challenge.pw_buildanswers_s01_answers.main.body.getD i (.Pass ⟨0, 0, 0, 0⟩)
end BA

namespace BA
open PySem PySem.Spec PyProof.Rows L2 Evl

/-! ### names of the module -/
section
variable {X : Cx} {x : Str} {p : Pos}
theorem pe_gi {n : Int} (hg : Gl X x) (h : ∃ t, X.mg x = some (.int n t)) (hd : (x == ("__debug__" : Str)) = false := by decide) : PE X (.Name x p) (tC (.int n)) := by
  obtain ⟨t, e⟩ := h
  exact pe_glob hg e ⟨t, rfl⟩ hd
theorem pe_gs {z : Str} (hg : Gl X x) (h : ∃ t, X.mg x = some (.str z t)) (hd : (x == ("__debug__" : Str)) = false := by decide) : PE X (.Name x p) (tC (.str z)) := by
  obtain ⟨t, e⟩ := h
  exact pe_glob hg e ⟨t, rfl⟩ hd
theorem pe_gr {b : Addr} (hg : Gl X x) (h : X.mg x = some (.ref b)) (hd : (x == ("__debug__" : Str)) = false := by decide) : PE X (.Name x p) (tC (.ref b)) := pe_glob hg h rfl hd
end

/-! ### rules within a block: the written part told -/
section
variable {X : Cx} {K : PySem.W.Frag}
theorem pe_fldK {e : Expr} {f : Str} {pos : Pos} {ta : TE} (he : PE X e ta) (hb : attributeBase e f X.env (eval e X.env) = eval e X.env) (hK : X.K = K := by rfl) : PE X (.Attribute e f pos) (tFld K ta f) := by
  subst hK
  exact pe_fld he hb
theorem ix_listK (hK : X.K = K := by rfl) : IxR X (rIxL K) := by
  subst hK
  exact ix_list
theorem ix_tupK (hK : X.K = K := by rfl) : IxR X (rIxT K) := by
  subst hK
  exact ix_tup
theorem op_in_seqK (hK : X.K = K := by rfl) : OpR X (compareOp .In) (rIn K false) := by
  subst hK
  exact op_in_seq
theorem op_notIn_seqK (hK : X.K = K := by rfl) : OpR X (compareOp .NotIn) (rIn K true) := by
  subst hK
  exact op_notIn_seq
theorem op_eqDK (hu : X.A.units + 64 < cLine) (hK : X.K = K := by rfl) : OpR X (compareOp .Eq) (rEqD K) := by
  subst hK
  exact op_eqD hu
theorem pg_tupK {es : List Expr} {k n : Nat} {pos : Pos} {t : TGs} (hc : X.calm = true) (h : PGs X es t) (hK : X.K = K := by rfl) (hn : (assignEach es X.env).length = n := by rfl) (hst : (assignEach es X.env).findIdx? (·.1) = none := by rfl) : PG X (.Tuple es k pos) (gTup K n t) := by
  subst hK
  exact pg_tup hc h hn hst
end
/-! ### a dict of the module, its keys numbers -/
structure KdI (K : PySem.W.Frag) (d : Addr) (kvs : List (Int × V)) : Prop where
  ex : ∃ (es : Array DictEntry) (n : Nat), K.lookup d = some ⟨.type "dict", none, .dict es n, #[]⟩ ∧ Paired (fun (q : Int × V) (e : DictEntry) => (∃ t, e.key = .int q.1 t) ∧ e.hash = hashInt q.1 ∧ RelV q.2 e.val) kvs es.toList
  low : (d == sysModules) = false
theorem kdI_find {k : Int} : ∀ {kvs : List (Int × V)} {es : List DictEntry}, Paired (fun (q : Int × V) (e : DictEntry) => (∃ t, e.key = .int q.1 t) ∧ e.hash = hashInt q.1 ∧ RelV q.2 e.val) kvs es →
    match kvs.lookup k, (es.find? fun d => Value.isInt k d.key).map (·.val) with
    | some v, some u => RelV v u
    | none, none => True
    | _, _ => False
  | _, _, .nil => trivial
  | (i, v) :: kvs, e :: es, .cons ⟨⟨t, h1⟩, _, h3⟩ r => by
    have ih := kdI_find (k := k) r
    have hk : Value.isInt k e.key = (k == i) := by
      rw [h1]
      show (i == k) = (k == i)
      exact BEq.comm
    rw [List.lookup_cons, List.find?_cons, hk]
    cases hki : k == i with
    | true => exact h3
    | false => exact ih
theorem kdI_map {K : PySem.W.Frag} {prog : Program} {w : World} {h : Heap} {d : Addr} {kvs : List (Int × V)} (D : KdI K d kvs) (X : K.In h) :
    ∃ f : Int → Option Value, h.MapOf (intKind prog w) d f ∧ ∀ k, match kvs.lookup k, f k with
    | some v, some u => RelV v u
    | none, none => True
    | _, _ => False := by
  obtain ⟨es, n, hl, hp⟩ := D.ex
  refine ⟨fun k => findBy Value.isInt es k, ⟨_, es, n, X _ _ hl, ⟨rfl, rfl, rfl⟩, rfl, ?_, fun k => rfl⟩, fun k => ?_⟩
  · intro e he
    have key : ∀ {l : List (Int × V)} {m : List DictEntry}, Paired (fun (q : Int × V) (e : DictEntry) => (∃ t, e.key = .int q.1 t) ∧ e.hash = hashInt q.1 ∧ RelV q.2 e.val) l m → e ∈ m → ∃ i t, e.key = .int i t ∧ e.hash = hashInt i := by
      intro l m hpm
      induction hpm with
      | nil => intro hm; cases hm
      | cons hh _ ih =>
        intro hm
        rcases List.mem_cons.mp hm with rfl | hm
        · obtain ⟨⟨t, h1⟩, h2, _⟩ := hh
          exact ⟨_, t, h1, h2⟩
        · exact ih hm
    obtain ⟨i, t, h1, h2⟩ := key hp (Array.mem_toList_iff.mpr he)
    exact ⟨i, by rw [h1]; show (i == i) = true; exact beq_self_eq_true i, h2⟩
  · have q := kdI_find (k := k) hp
    obtain ⟨l⟩ := es
    show match kvs.lookup k, findBy Value.isInt ⟨l⟩ k with
      | some v, some u => RelV v u
      | none, none => True
      | _, _ => False
    unfold findBy
    rw [List.find?_toArray]
    exact q
/-- k in d -/
def rKdIn (d : Addr) (kvs : List (Int × V)) : R2 := fun x y H Q => ∃ i, x = .int i ∧ y = .ref d ∧ Q (.bl (kvs.lookup i).isSome) H
theorem op_kdI {X : Cx} {d : Addr} {kvs : List (Int × V)} (D : KdI X.K d kvs) : OpR X (compareOp .In) (rKdIn d kvs) := by
  intro pins s σ H x y v u Q I rx ry h
  obtain ⟨i, rfl, rfl, q⟩ := h
  obtain ⟨t, rfl⟩ := rx
  cases ry
  obtain ⟨f, hm, hf⟩ := kdI_map (prog := X.prog) (w := X.w) D I.kIn
  refine wpAny_in_of (knd := intKind X.prog X.w) (k := i) (show (i == i) = true from beq_self_eq_true i) D.low hm ?_
  have e : (f i).isSome = (kvs.lookup i).isSome := by
    have z := hf i
    cases h1 : kvs.lookup i <;> cases h2 : f i <;> rw [h1, h2] at z <;> first | rfl | exact z.elim
  rw [e]
  exact ⟨.bl _, H, I.tok _, rfl, q⟩
/-- d[k] -/
def rKdGet (d : Addr) (kvs : List (Int × V)) : R2 := fun x y H Q => ∃ i v, x = .ref d ∧ y = .int i ∧ kvs.lookup i = some v ∧ Q v H
theorem ix_kdI {X : Cx} {d : Addr} {kvs : List (Int × V)} (D : KdI X.K d kvs) : IxR X (rKdGet d kvs) := by
  intro value slice pins s σ H x y v u Q I rx ry h hs
  obtain ⟨i, r, rfl, rfl, e, q⟩ := h
  obtain rfl : v = Value.ref d := rx
  obtain ⟨t, rfl⟩ := ry
  obtain ⟨f, hm, hf⟩ := kdI_map (prog := X.prog) (w := X.w) D I.kIn
  have z := hf i
  rw [e] at z
  cases h2 : f i with
  | none =>
    rw [h2] at z
    exact z.elim
  | some u0 =>
    rw [h2] at z
    exact tail_any hm.typeIs slot_dict_getitem.lookup (wpAny_getItem_of (knd := intKind X.prog X.w) (k := i) (show (i == i) = true from beq_self_eq_true i) hm h2 ⟨r, H, I.tok _, z, q⟩) hs

/-! ### an exception class over Exception with an __init__ that sets fields -/
structure XC (K : PySem.W.Frag) (C : Addr) : Prop where
  cls : ∃ nm q N bs sn sub ab col dd k0 k1 k2 k3 k5, K.lookup C = some (excClassObj nm q C N bs PySem.ESX.exTail true sn sub ab col dd k0 k1 k2 k3 k5 "Exception.__new__")
  sa : PySem.W.findIn K (.ref C) "__setattr__" = some (some (.builtin "object.__setattr__"))
  ga : PySem.W.findIn K (.ref C) "__getattribute__" = some (some (.builtin "BaseException.__getattribute__"))
  gg : PySem.W.findIn K (.ref C) "__getattr__" = some none
  ex : PySem.W.subIn K (.ref C) (.type "BaseException") = some true
  ty : PySem.W.typeIn K (.ref C) = some (.type "type")
  hd : PySem.W.hasDictIn K C = true
  kp : PySem.W.keepIn K (.ref C) = true
  te : PySem.W.exmOne K (.ref C) (.ref C) = some true
theorem XC.cd {K : PySem.W.Frag} {C : Addr} (T : XC K C) : ∃ cd : ClassData, PySem.W.clsIn K C = some cd ∧ cd.mro = .ref C :: PySem.ESX.exTail ∧ cd.hasDict = true := by
  obtain ⟨nm, q, N, bs, sn, sub, ab, col, dd, k0, k1, k2, k3, k5, hC⟩ := T.cls
  refine ⟨{ name := nm, bases := bs, mro := .ref C :: PySem.ESX.exTail, ns := N, qualname := q, hasDict := true, slotNames := sn, subclasses := sub, abstract := ab, collection := col, hasDel := false }, ?_, rfl, rfl⟩
  unfold PySem.W.clsIn
  rw [hC] <;> rfl
theorem exm_self {K : PySem.W.Frag} {S : Addr} (h1 : PySem.W.subIn K (.ref S) (.type "BaseException") = some true) (h2 : PySem.W.isClsIn K S = true) (h3 : PySem.W.typeIn K (.ref S) = some (.type "type")) (h4 : PySem.W.subIn K (.ref S) (.ref S) = some true) : PySem.W.exmOne K (.ref S) (.ref S) = some true := by
  have a1 : (PySem.W.subIn K (.ref S) (.type "BaseException") == some true) = true := by rw [h1] <;> rfl
  have a2 : ((PySem.W.clsIn K S).isSome && PySem.W.typeIn K (.ref S) == some (.type "type")) = true := by
    have z : (PySem.W.clsIn K S).isSome = true := h2
    rw [z, h3] <;> rfl
  show (if (PySem.W.subIn K (.ref S) (.type "BaseException") == some true) = true then (if ((PySem.W.clsIn K S).isSome && PySem.W.typeIn K (.ref S) == some (.type "type")) = true then PySem.W.subIn K (.ref S) (.ref S) else none) else none) = some true
  rw [if_pos a1, if_pos a2, h4]
section
variable {X : Cx} {pins : List (Addr × Obj)} {σ : L2.St} {H : Hp} {s : Shared} {a C dx : Addr} {f : Str} {y : V} {u : Value} {fs : List (Str × V)} {Q : Unit → Shared → Prop} {E : Value → Shared → Prop} {A : Around}
/-- the first field -/
theorem xst_new (T : XC X.K C) (I : Inv X pins σ H s) (e : H a = some (exo a C none)) (hno : PySem.W.findIn X.K (.ref C) f = some none) (ry : RelV y u)
    (h : ∀ dx s', H dx = none → dx ≠ a → Inv X pins σ (upd (upd H dx (exd dx [(f, y)])) a (exo a C (some dx))) s' → Q () s') : wpAny (model X.prog X.w) A (setAttr (.ref a) f u) Q E s := by
  obtain ⟨cd, hcl, hmr, hhd⟩ := T.cd
  obtain ⟨t1, ho⟩ := exo_at I.hok e
  obtain ⟨hp, g, d, t, os⟩ := s
  refine PySem.W.set_plain I.kIn (ox := { cls := .ref C, dict := none, data := .fields #[.ref t1, .none, .none, .none, .bool false, .none] }) (od := none) ⟨ho, rfl, rfl, trivial⟩ T.sa ?_
  refine PySem.ESX.osa_new I.kIn ho hcl hmr hhd hno fun h' tk' dx k dn dne hx hn => ?_
  have q0 : H dx = none := I.hok.fresh dn
  have q1 : ∀ {b : Addr} {o : Obj}, hp.get? b = some o → b ≠ dx := fun {b o} q => Nat.ne_of_lt (Nat.lt_of_lt_of_le (Heap.lt_size q) dn)
  have q2 : ∀ {b : Addr}, H b = none → b ≠ a := fun {b} n z => by
    rw [z, e] at n
    cases n
  refine h dx _ q0 dne (I.un (t' := tk') ⟨fun b o q n _ _ => k b o (q2 n) q, fun b o q n _ _ => ⟨o.slots, k b o (q2 n) q⟩, fun b o q n _ => ?_, fun b o q _ => ?_, fun b xs q => ?_, fun b o v q => ?_, fun b ps q => ⟨#[], ?_⟩⟩ fun b o q => ?_)
  · rw [upd_ne (q2 n), upd_ne (q1 q), n]
  · by_cases hb : b = a
    · subst hb
      exact ⟨_, hx⟩
    · exact ⟨o, k b o hb q⟩
  · rw [upd_ne (at_ne e q exo_tup), upd_ne (ne_of_none q q0), q]
  · rw [upd_ne (at_ne e q exo_frz), upd_ne (ne_of_none q q0), q]
  · rw [upd_ne (at_ne e q exo_tbl), upd_ne (ne_of_none q q0), q]
    simp
  · by_cases hb : b = a
    · subst hb
      rw [upd_same] at q
      cases q
      exact exo_ok hx
    · rw [upd_ne hb] at q
      by_cases hd : b = dx
      · subst hd
        rw [upd_same] at q
        cases q
        exact exd_ok hn (relO_put (fs := []) ry fun g => True.intro)
      · rw [upd_ne hd] at q
        refine (I.hok b o q).stay (fun c v hc z => k c v ?_ z) (fun c hc => ?_) (fun c xs hc => ?_)
        · rcases hc with rfl | hc
          · exact hb
          · exact at_ne e hc exo_own
        · rw [upd_ne (at_ne e hc exo_own), upd_ne (ne_of_none hc q0), hc]
        · rw [upd_ne (at_ne e hc exo_tup), upd_ne (ne_of_none hc q0), hc]
/-- a later field -/
theorem xst_old (T : XC X.K C) (I : Inv X pins σ H s) (e : H a = some (exo a C (some dx))) (ed : H dx = some (exd dx fs)) (hl : fs.length ≤ 900) (hno : PySem.W.findIn X.K (.ref C) f = some none) (ry : RelV y u)
    (h : ∀ s', Inv X pins σ (upd H dx (exd dx ((f, y) :: fs))) s' → Q () s') : wpAny (model X.prog X.w) A (setAttr (.ref a) f u) Q E s := by
  obtain ⟨cd, hcl, hmr, hhd⟩ := T.cd
  obtain ⟨t1, ho⟩ := exo_at I.hok e
  obtain ⟨mA, hns, rel⟩ := exd_at I.hok ed
  have hw := within_of rel
  obtain ⟨hp, g, d, t, os⟩ := s
  obtain ⟨oD, _, _, hoD, _, _⟩ := hns.count hw
  refine PySem.W.set_plain I.kIn (ox := { cls := .ref C, dict := some dx, data := .fields #[.ref t1, .none, .none, .none, .bool false, .none] }) (od := some oD) ⟨ho, rfl, rfl, hoD⟩ T.sa ?_
  refine PySem.ESX.osa_old I.kIn ho hns hw (by rw [List.length_map]; omega) hcl hmr hhd hno fun h' tk' k hn => ?_
  have hd : ∃ o, h'.get? dx = some o := by
    obtain ⟨o, _, _, z, _⟩ := hn
    exact ⟨o, z⟩
  refine h _ (I.write (t' := tk') (x := dx) (e := dx) (o := exd dx ((f, y) :: fs)) ?_ (.inl rfl) k hd (exd_ok hn (relO_put ry rel)))
  rw [ed]
  trivial
end
/-- self.f = e, self an exception that is being made -/
def tXst (K : PySem.W.Frag) (f : Str) (to te : TE) : TS := fun D σ H => te σ H fun y H1 => to σ H1 fun x H2 => ∃ a C : Addr, x = .ref a ∧ XC K C ∧ PySem.W.findIn K (.ref C) f = some none ∧
  ((H2 a = some (exo a C none) ∧ ∀ dx, H2 dx = none → dx ≠ a → D.nx σ (upd (upd H2 dx (exd dx [(f, y)])) a (exo a C (some dx)))) ∨
    ∃ (dx : Addr) (fs : List (Str × V)), H2 a = some (exo a C (some dx)) ∧ H2 dx = some (exd dx fs) ∧ fs.length ≤ 900 ∧ D.nx σ (upd H2 dx (exd dx ((f, y) :: fs))))
theorem ps_xst {X : Cx} {o e : Expr} {to te : TE} {f : Str} {p' pos : Pos} (ho : PE X o to) (he : PE X e te) (hs : swapsWith e (some (.Attribute o f p')) pos.line X.env = pure false := by rfl) : PS X (.Assign [.Attribute o f p'] e pos) (tXst X.K f to te) := by
  refine ⟨fun pins s σ H D I h => plainObj_wpAny_Assign_Attribute (thn (he.run pins s σ H _ I h) fun v s1 ⟨y, H1, I1, r1, q1⟩ => thn (ho.run pins s1 σ H1 _ I1 q1) fun u s2 ⟨x, H2, I2, r2, a, C, ex, T, hno, q⟩ => ?_) hs⟩
  subst ex
  obtain rfl : u = Value.ref a := r2
  rcases q with ⟨ea, q⟩ | ⟨dx, fs, ea, ed, hl, q⟩
  · exact xst_new T I2 ea hno r1 fun dx s' n ne J => ⟨σ, _, J, q dx n ne⟩
  · exact xst_old T I2 ea ed hl hno r1 fun s' J => ⟨σ, _, J, q⟩
/-- C(e, ..) for a raise -/
theorem pmk_x {X : Cx} {CX : CXT} {x : Str} {C fI : Addr} {k : Nat} {fd : FuncData} {ps : List Str} {sp : Sp} {e : Expr} {es : List Expr} {ta : TA} {p pos : Pos} (T : XC X.K C) (iC : PySem.W.findIn X.K (.ref C) "__init__" = some (some (.ref fI)))
    (tI : PySem.W.typeIn X.K (.ref fI) = some (.type "function")) (F1 : FnOk X.prog X.w X.K X.mg X.base CX k fI fd ps sp) (hr : Room (k + 1) X.A) (hb : Binds X.K fd ps []) (hx : Passes CX X (fun _ _ _ => False)) (hm : X.mg x = some (.ref C)) (ha : PA X (e :: es) ta) (hg : Gl X x)
    {R : List V → Hp → XK → Prop} (hR : ∀ vs H1 Q, R vs H1 Q → vs.length ≤ 1000 ∧ ∀ a, H1 a = none → sp (.ref a :: vs) (upd H1 a (exo a C none)) (fun v H2 => v = .non ∧ ∃ (d : Addr) (fs : List (Str × V)), H2 a = some (exo a C (some d)) ∧ H2 d = some (exd d fs) ∧ H1 d = none ∧ Q (.ref C) (some d) (upd (del H2 a) d (.xd fs))) (fun _ _ _ => False))
    (hdb : (x == ("__debug__" : Str)) = false := by decide) (he : starEach (e :: es) X.env = (false, eval e X.env) :: starEach es X.env := by rfl) (hpl : (backTo pos (starEach es X.env)).any (·.1) = false := by rfl) :
    PMk X (.Call (.Name x p) (e :: es) [] pos) (fun σ H Q => ta σ H fun vs H1 => R vs H1 Q) := by
  intro pins s σ H Q I h
  obtain ⟨nm, q, N, bs, sn, sub, ab, col, dd, k0, k1, k2, k3, k5, hC⟩ := T.cls
  refine wpAny_Call_Name_kw (ld_glob I hg hm ?_ hdb)
  refine PySem.W.callWith_K (h₀ := X.base) I.ok.mod.kin T.kp (thn (ha.run pos pins s σ H _ I h) fun us s1 ⟨vs, H1, I1, r1, hv⟩ => ⟨I1.kIn, ?_⟩) he hpl
  obtain ⟨hz, q1⟩ := hR _ _ _ hv
  show wpAny _ _ (call (.ref C) us) _ _ _
  obtain ⟨hp, g, dr, tk, os⟩ := s1
  have z0 : hp.objs.size ≤ hp.objs.size + 1 := Nat.le_succ _
  have z1 : H1 (hp.objs.size + 1) = none := I1.hok.fresh z0
  have hq := q1 (hp.objs.size + 1) z1
  have kk : ∀ b o, hp.get? b = some o → ((hp.push (PySem.W.kdv_tup us)).push (PySem.HandSPX.excO C hp.objs.size)).get? b = some o := fun b o z => Heap.get?_push_of_some _ (Heap.get?_push_of_some _ z)
  have z2 : ((hp.push (PySem.W.kdv_tup us)).push (PySem.HandSPX.excO C hp.objs.size)).get? (hp.objs.size + 1) = some (PySem.HandSPX.excO C hp.objs.size) := by heap_get
  have I2 : Inv X pins σ (upd H1 (hp.objs.size + 1) (exo (hp.objs.size + 1) C none)) ⟨(hp.push (PySem.W.kdv_tup us)).push (PySem.HandSPX.excO C hp.objs.size), g, dr, tk, os⟩ :=
    I1.laid (t' := tk) (a := hp.objs.size + 1) (o := exo (hp.objs.size + 1) C none) (h' := (hp.push (PySem.W.kdv_tup us)).push (PySem.HandSPX.excO C hp.objs.size)) kk z0 (exo_ok z2)
  have r2 : Vals (V.ref (hp.objs.size + 1) :: vs) (Value.ref (hp.objs.size + 1) :: us) := .cons rfl r1
  have hl : (Value.ref (hp.objs.size + 1) :: us).length = ps.length := by
    have z := r2.length
    rw [F1.len _ _ _ _ hq] at z
    exact z.symm
  have hbb := hb ⟨(hp.push (PySem.W.kdv_tup us)).push (PySem.HandSPX.excO C hp.objs.size), g, dr, tk, os⟩ (Value.ref (hp.objs.size + 1) :: us) I2.kIn (by rw [List.append_nil]; exact hl)
  rw [List.append_nil] at hbb
  have hus : us.length ≤ sizeLine := by
    rw [← Paired.length r1, sizeLine_eq]
    omega
  refine wpAny_call (PySem.HandSPX.call_own F.excBase_Exception (fun _ => rfl) (I1.kIn _ _ hC) (PySem.W.looks_findIn I1.kIn iC) (fun self => PySem.W.bind_fn I1.kIn self tI) hus
    (codeAny_mono (F1.run _ X.stack _ _ ⟨Value.ref (hp.objs.size + 1) :: us, []⟩ (Value.ref (hp.objs.size + 1) :: us) _ _ (fun _ _ _ => False) (hr.make C us []) (I2.env0.make C us []) hbb r2 hq) fun r s' hq' => ?_))
  cases r with
  | error er => exact hx pins σ _ _ er s' I2 hq'
  | ok fl =>
    cases fl with
    | ret u =>
      obtain ⟨v, H2, os2, bare2, un2, hok2, rv, ev, d, fs, ea, ed, hd1, q2⟩ := hq'
      subst ev
      obtain ⟨h2, g2, d2, t2, os'⟩ := s'
      exact ⟨rv, mk_end (raises_own T.ex T.ty) I1 z0 kk un2 hok2 os2 bare2 ea ed hd1 q2⟩
    | next => exact hq'.elim
    | brk => exact hq'.elim
    | cont => exact hq'.elim
/-- the heap behind the making: the dict alone is left -/
theorem mk_left {H1 : Hp} {a d : Addr} {o1 o1' o2 : HO} {fs : List (Str × V)} (h : H1 a = none) (ne : d ≠ a) : upd (del (upd (upd (upd H1 a o1) d o2) a o1') a) d (.xd fs) = upd H1 d (.xd fs) := by
  funext b
  by_cases hb : b = d
  · subst hb
    rw [upd_same, upd_same]
  · rw [upd_ne hb, upd_ne hb]
    by_cases hba : b = a
    · subst hba
      rw [del_same, h]
    · rw [del_ne hba, upd_ne hba, upd_ne hb, upd_ne hba]
theorem mk_left2 {H1 : Hp} {a d : Addr} {o1 o1' o2 o3 : HO} {fs : List (Str × V)} (h : H1 a = none) (ne : d ≠ a) : upd (del (upd (upd (upd (upd H1 a o1) d o2) a o1') d o3) a) d (.xd fs) = upd H1 d (.xd fs) := by
  funext b
  by_cases hb : b = d
  · subst hb
    rw [upd_same, upd_same]
  · rw [upd_ne hb, upd_ne hb]
    by_cases hba : b = a
    · subst hba
      rw [del_same, h]
    · rw [del_ne hba, upd_ne hb, upd_ne hba, upd_ne hb, upd_ne hba]
/-- e.f, e the exception that the suite holds (at a; its class cls, its dict d) -/
def tXf (C : Addr) (f : Str) (a : Addr) (cls : Value) (d : Option Addr) (te : TE) : TE := fun σ H Q => te σ H fun x H1 => x = .ref a ∧ cls = .ref C ∧ ∃ (dd : Addr) (fs : List (Str × V)) (v : V), d = some dd ∧ H1 dd = some (.xd fs) ∧ fs.lookup f = some v ∧ Q v H1
theorem pe_xf {X : Cx} {C a : Addr} {f : Str} {oe : Obj} {cls : Value} {d : Option Addr} {pn : List (Addr × Obj)} {e : Expr} {te : TE} {pos : Pos} (T : XC X.K C) (hn : PySem.W.findIn X.K (.ref C) f = some none) (hz : Zc cls d oe) (hf : ∃ vs, oe.data = .fields vs) (he : PE (X.suite a ((a, oe) :: pn)) e te)
    (hb : attributeBase e f X.env (eval e X.env) = eval e X.env := by rfl) : PE (X.suite a ((a, oe) :: pn)) (.Attribute e f pos) (tXf C f a cls d te) := by
  refine ⟨fun pins s σ H Q I h => attr_of hb (thn (he.run pins s σ H _ I h) fun u s1 hh => ?_)⟩
  obtain ⟨x, H1, I1, rx, ex, ec, dd, fs, v, ed, ea, hl, q⟩ := hh
  subst ex
  obtain rfl : u = Value.ref a := rx
  subst ec ed
  obtain ⟨ha, _⟩ := I1.pin (a, oe) (List.mem_append_left _ List.mem_cons_self)
  obtain ⟨vs, hd⟩ := hf
  obtain ⟨mA, hns, hr⟩ := (show ObjOk X.prog X.w H1 s1.heap dd (.xd fs) from I1.hok dd _ ea)
  obtain ⟨od, ho, hlk⟩ := lookIn_ns hns
  obtain ⟨u, hu, ru⟩ := RelO.some_of (v := v) (o := mA f) (by rw [← hl]; exact hr f)
  have J : PySem.W.InstAt s1.heap a oe C (some od) := ⟨ha, hz.1, by unfold PySem.W.notCls; rw [hd] <;> rfl, by rw [hz.2]; exact ho⟩
  exact HandSPX.exc_get I1.kIn J T.ga T.gg T.ex (PySem.W.findObj_own T.hd hn rfl (by rw [hlk, hu])) (handed_of ru) ⟨v, H1, I1.tok _, ru, q⟩
end BA

namespace BA
open PySem PySem.Spec PyProof.Rows L2 Evl
/-! ### the defs of the text, their scopes -/
abbrev s_Fault_init : Stmt := inClass (top 14) 0
abbrev s_Token_init : Stmt := inClass (top 15) 0
abbrev s_signs_of : Stmt := top 16
abbrev s_is_digit : Stmt := top 17
abbrev s_is_letter : Stmt := top 18
abbrev s_behind_blanks : Stmt := top 19
abbrev s_behind_name : Stmt := top 20
abbrev s_behind_digits : Stmt := top 21
abbrev s_name_token : Stmt := top 22
abbrev s_number_token : Stmt := top 23
abbrev s_tokens_of : Stmt := top 24
abbrev s_Table_init : Stmt := inClass (top 41) 0
abbrev s_Table_groupings : Stmt := inClass (top 41) 1
abbrev s_Parser_init : Stmt := inClass (top 42) 0
abbrev s_Parser_here : Stmt := inClass (top 42) 1
abbrev s_Parser_fail_if : Stmt := inClass (top 42) 2
abbrev s_Parser_comes : Stmt := inClass (top 42) 3
abbrev s_Parser_take : Stmt := inClass (top 42) 4
abbrev s_Parser_passes : Stmt := inClass (top 42) 5
abbrev s_Parser_take_number : Stmt := inClass (top 42) 6
abbrev s_Parser_take_column : Stmt := inClass (top 42) 7
abbrev s_Parser_take_columns : Stmt := inClass (top 42) 8
abbrev s_Parser_take_row : Stmt := inClass (top 42) 9
abbrev s_Parser_take_group : Stmt := inClass (top 42) 10
abbrev s_Parser_take_question : Stmt := inClass (top 42) 11
abbrev s_Parser_take_table : Stmt := inClass (top 42) 12
abbrev s_read_table : Stmt := top 43
abbrev s_with_commas : Stmt := top 44
abbrev s_line_of : Stmt := top 45
abbrev s_columns_in : Stmt := top 46
abbrev s_one_form : Stmt := top 47
abbrev s_size_of : Stmt := top 52
abbrev s_has_all : Stmt := top 53
abbrev s_is_above : Stmt := top 54
abbrev s_column_count : Stmt := top 55
abbrev s_helper_number : Stmt := top 56
abbrev s_Sizes_init : Stmt := inClass (top 57) 0
abbrev s_Sizes_smallest : Stmt := inClass (top 57) 1
abbrev s_Sizes_parent_in : Stmt := inClass (top 57) 2
abbrev s_Sizes_read_from : Stmt := inClass (top 57) 3
abbrev s_Sizes_build_cost : Stmt := inClass (top 57) 4
abbrev s_Sizes_cost_together : Stmt := inClass (top 57) 5
abbrev s_Sizes_total : Stmt := inClass (top 57) 6
abbrev s_sets_of : Stmt := top 58
abbrev s_best_helpers : Stmt := top 59
abbrev s_plan_with : Stmt := top 60
abbrev s_Played_init : Stmt := inClass (top 61) 0
abbrev s_Played_play : Stmt := inClass (top 61) 1
abbrev s_Refused_init : Stmt := inClass (top 70) 0
abbrev s_Desk_init : Stmt := inClass (top 71) 0
abbrev s_refuse_if : Stmt := top 72
abbrev s_is_grouping : Stmt := top 73
abbrev s_need_groupings : Stmt := top 74
abbrev s_load : Stmt := top 75
abbrev s_shown : Stmt := top 76
abbrev s_wish : Stmt := top 77
abbrev s_plain : Stmt := top 78
abbrev s_told_with : Stmt := top 79
abbrev s_best : Stmt := top 80
abbrev s_is_step : Stmt := top 81
abbrev s_check : Stmt := top 82
abbrev s_read_by : Stmt := top 83
abbrev s_idle : Stmt := top 84
abbrev s_from_all : Stmt := top 85
abbrev s_with_helpers : Stmt := top 86
abbrev s_answered : Stmt := top 88
abbrev s_answers : Stmt := top 89
theorem sc_Fault_init : FnScope ["self", "code", "place"] ["self", "code", "place"] (defScope s_Fault_init) := ⟨rfl, rfl, rfl, by decide +kernel, rfl, by decide +kernel, by decide +kernel⟩
theorem sc_Token_init : FnScope ["self", "kind", "value", "place"] ["self", "kind", "value", "place"] (defScope s_Token_init) := ⟨rfl, rfl, rfl, by decide +kernel, rfl, by decide +kernel, by decide +kernel⟩
theorem sc_signs_of : FnScope ["word", "sign"] ["word"] (defScope s_signs_of) := ⟨rfl, rfl, rfl, by decide +kernel, rfl, by decide +kernel, by decide +kernel⟩
theorem sc_is_digit : FnScope ["byte"] ["byte"] (defScope s_is_digit) := ⟨rfl, rfl, rfl, by decide +kernel, rfl, by decide +kernel, by decide +kernel⟩
theorem sc_is_letter : FnScope ["byte"] ["byte"] (defScope s_is_letter) := ⟨rfl, rfl, rfl, by decide +kernel, rfl, by decide +kernel, by decide +kernel⟩
theorem sc_behind_blanks : FnScope ["text", "at"] ["text", "at"] (defScope s_behind_blanks) := ⟨rfl, rfl, rfl, by decide +kernel, rfl, by decide +kernel, by decide +kernel⟩
theorem sc_behind_name : FnScope ["text", "at"] ["text", "at"] (defScope s_behind_name) := ⟨rfl, rfl, rfl, by decide +kernel, rfl, by decide +kernel, by decide +kernel⟩
theorem sc_behind_digits : FnScope ["text", "at"] ["text", "at"] (defScope s_behind_digits) := ⟨rfl, rfl, rfl, by decide +kernel, rfl, by decide +kernel, by decide +kernel⟩
theorem sc_name_token : FnScope ["text", "at", "end", "value", "word"] ["text", "at", "end"] (defScope s_name_token) := ⟨rfl, rfl, rfl, by decide +kernel, rfl, by decide +kernel, by decide +kernel⟩
theorem sc_number_token : FnScope ["text", "at", "end", "value", "byte"] ["text", "at", "end"] (defScope s_number_token) := ⟨rfl, rfl, rfl, by decide +kernel, rfl, by decide +kernel, by decide +kernel⟩
theorem sc_tokens_of : FnScope ["text", "found", "at", "end"] ["text"] (defScope s_tokens_of) := ⟨rfl, rfl, rfl, by decide +kernel, rfl, by decide +kernel, by decide +kernel⟩
theorem sc_Table_init : FnScope ["self"] ["self"] (defScope s_Table_init) := ⟨rfl, rfl, rfl, by decide +kernel, rfl, by decide +kernel, by decide +kernel⟩
theorem sc_Table_groupings : FnScope ["self"] ["self"] (defScope s_Table_groupings) := ⟨rfl, rfl, rfl, by decide +kernel, rfl, by decide +kernel, by decide +kernel⟩
theorem sc_Parser_init : FnScope ["self", "tokens"] ["self", "tokens"] (defScope s_Parser_init) := ⟨rfl, rfl, rfl, by decide +kernel, rfl, by decide +kernel, by decide +kernel⟩
theorem sc_Parser_here : FnScope ["self"] ["self"] (defScope s_Parser_here) := ⟨rfl, rfl, rfl, by decide +kernel, rfl, by decide +kernel, by decide +kernel⟩
theorem sc_Parser_fail_if : FnScope ["self", "is_so", "code"] ["self", "is_so", "code"] (defScope s_Parser_fail_if) := ⟨rfl, rfl, rfl, by decide +kernel, rfl, by decide +kernel, by decide +kernel⟩
theorem sc_Parser_comes : FnScope ["self", "kind", "value"] ["self", "kind", "value"] (defScope s_Parser_comes) := ⟨rfl, rfl, rfl, by decide +kernel, rfl, by decide +kernel, by decide +kernel⟩
theorem sc_Parser_take : FnScope ["self", "kind", "value"] ["self", "kind", "value"] (defScope s_Parser_take) := ⟨rfl, rfl, rfl, by decide +kernel, rfl, by decide +kernel, by decide +kernel⟩
theorem sc_Parser_passes : FnScope ["self", "kind", "value", "is_there"] ["self", "kind", "value"] (defScope s_Parser_passes) := ⟨rfl, rfl, rfl, by decide +kernel, rfl, by decide +kernel, by decide +kernel⟩
theorem sc_Parser_take_number : FnScope ["self", "low", "high", "token"] ["self", "low", "high"] (defScope s_Parser_take_number) := ⟨rfl, rfl, rfl, by decide +kernel, rfl, by decide +kernel, by decide +kernel⟩
theorem sc_Parser_take_column : FnScope ["self", "token", "columns"] ["self"] (defScope s_Parser_take_column) := ⟨rfl, rfl, rfl, by decide +kernel, rfl, by decide +kernel, by decide +kernel⟩
theorem sc_Parser_take_columns : FnScope ["self"] ["self"] (defScope s_Parser_take_columns) := ⟨rfl, rfl, rfl, by decide +kernel, rfl, by decide +kernel, by decide +kernel⟩
theorem sc_Parser_take_row : FnScope ["self", "values", "turn", "is_below", "amount"] ["self"] (defScope s_Parser_take_row) := ⟨rfl, rfl, rfl, by decide +kernel, rfl, by decide +kernel, by decide +kernel⟩
theorem sc_Parser_take_group : FnScope ["self", "grouping", "token", "columns", "weight"] ["self", "grouping"] (defScope s_Parser_take_group) := ⟨rfl, rfl, rfl, by decide +kernel, rfl, by decide +kernel, by decide +kernel⟩
theorem sc_Parser_take_question : FnScope ["self", "grouping", "times"] ["self"] (defScope s_Parser_take_question) := ⟨rfl, rfl, rfl, by decide +kernel, rfl, by decide +kernel, by decide +kernel⟩
theorem sc_Parser_take_table : FnScope ["self"] ["self"] (defScope s_Parser_take_table) := ⟨rfl, rfl, rfl, by decide +kernel, rfl, by decide +kernel, by decide +kernel⟩
theorem sc_read_table : FnScope ["text", "parser"] ["text"] (defScope s_read_table) := ⟨rfl, rfl, rfl, by decide +kernel, rfl, by decide +kernel, by decide +kernel⟩
theorem sc_with_commas : FnScope ["rows", "found", "at", "row"] ["rows"] (defScope s_with_commas) := ⟨rfl, rfl, rfl, by decide +kernel, rfl, by decide +kernel, by decide +kernel⟩
theorem sc_line_of : FnScope ["word", "parts", "rest", "found"] ["word", "parts", "rest"] (defScope s_line_of) := ⟨rfl, rfl, rfl, by decide +kernel, rfl, by decide +kernel, by decide +kernel⟩
theorem sc_columns_in : FnScope ["table", "grouping", "at", "name"] ["table", "grouping"] (defScope s_columns_in) := ⟨rfl, rfl, rfl, by decide +kernel, rfl, by decide +kernel, by decide +kernel⟩
theorem sc_one_form : FnScope ["table", "found", "values", "amount", "grouping", "times", "value"] ["table"] (defScope s_one_form) := ⟨rfl, rfl, rfl, by decide +kernel, rfl, by decide +kernel, by decide +kernel⟩
theorem sc_size_of : FnScope ["table", "grouping", "places", "found", "values", "amount", "at"] ["table", "grouping"] (defScope s_size_of) := ⟨rfl, rfl, rfl, by decide +kernel, rfl, by decide +kernel, by decide +kernel⟩
theorem sc_has_all : FnScope ["one", "other"] ["one", "other"] (defScope s_has_all) := ⟨rfl, rfl, rfl, by decide +kernel, rfl, by decide +kernel, by decide +kernel⟩
theorem sc_is_above : FnScope ["one", "other"] ["one", "other"] (defScope s_is_above) := ⟨rfl, rfl, rfl, by decide +kernel, rfl, by decide +kernel, by decide +kernel⟩
theorem sc_column_count : FnScope ["grouping", "weight"] ["grouping"] (defScope s_column_count) := ⟨rfl, rfl, rfl, by decide +kernel, rfl, by decide +kernel, by decide +kernel⟩
theorem sc_helper_number : FnScope ["helpers", "grouping"] ["helpers"] (defScope s_helper_number) := ⟨rfl, rfl, rfl, by decide +kernel, rfl, by decide +kernel, by decide +kernel⟩
theorem sc_Sizes_init : FnScope ["self", "table", "grouping"] ["self", "table"] (defScope s_Sizes_init) := ⟨rfl, rfl, rfl, by decide +kernel, rfl, by decide +kernel, by decide +kernel⟩
theorem sc_Sizes_smallest : FnScope ["self", "some", "best", "grouping"] ["self", "some"] (defScope s_Sizes_smallest) := ⟨rfl, rfl, rfl, by decide +kernel, rfl, by decide +kernel, by decide +kernel⟩
theorem sc_Sizes_parent_in : FnScope ["self", "some", "grouping", "other"] ["self", "some", "grouping"] (defScope s_Sizes_parent_in) := ⟨rfl, rfl, rfl, by decide +kernel, rfl, by decide +kernel, by decide +kernel⟩
theorem sc_Sizes_read_from : FnScope ["self", "source"] ["self", "source"] (defScope s_Sizes_read_from) := ⟨rfl, rfl, rfl, by decide +kernel, rfl, by decide +kernel, by decide +kernel⟩
theorem sc_Sizes_build_cost : FnScope ["self", "grouping", "source"] ["self", "grouping", "source"] (defScope s_Sizes_build_cost) := ⟨rfl, rfl, rfl, by decide +kernel, rfl, by decide +kernel, by decide +kernel⟩
theorem sc_Sizes_cost_together : FnScope ["self", "some", "grouping"] ["self", "some"] (defScope s_Sizes_cost_together) := ⟨rfl, rfl, rfl, by decide +kernel, rfl, by decide +kernel, by decide +kernel⟩
theorem sc_Sizes_total : FnScope ["self", "some", "grouping"] ["self", "some"] (defScope s_Sizes_total) := ⟨rfl, rfl, rfl, by decide +kernel, rfl, by decide +kernel, by decide +kernel⟩
theorem sc_sets_of : FnScope ["some", "found", "last", "turn", "longer", "row", "one"] ["some"] (defScope s_sets_of) := ⟨rfl, rfl, rfl, by decide +kernel, rfl, by decide +kernel, by decide +kernel⟩
theorem sc_best_helpers : FnScope ["sizes", "wished", "others", "best", "least", "helpers", "key", "grouping"] ["sizes", "wished"] (defScope s_best_helpers) := ⟨rfl, rfl, rfl, by decide +kernel, rfl, by decide +kernel, by decide +kernel⟩
theorem sc_plan_with : FnScope ["sizes", "wished", "helpers", "every", "order", "steps", "kept", "at", "grouping", "parents", "idle", "other", "helper"] ["sizes", "wished", "helpers"] (defScope s_plan_with) := ⟨rfl, rfl, rfl, by decide +kernel, rfl, by decide +kernel, by decide +kernel⟩
theorem sc_Played_init : FnScope ["self", "sizes", "steps", "is_going", "step"] ["self", "sizes", "steps"] (defScope s_Played_init) := ⟨rfl, rfl, rfl, by decide +kernel, rfl, by decide +kernel, by decide +kernel⟩
theorem sc_Played_play : FnScope ["self", "step", "grouping", "source", "is_good"] ["self", "step"] (defScope s_Played_play) := ⟨rfl, rfl, rfl, by decide +kernel, rfl, by decide +kernel, by decide +kernel⟩
theorem sc_Refused_init : FnScope ["self", "number"] ["self", "number"] (defScope s_Refused_init) := ⟨rfl, rfl, rfl, by decide +kernel, rfl, by decide +kernel, by decide +kernel⟩
theorem sc_Desk_init : FnScope ["self"] ["self"] (defScope s_Desk_init) := ⟨rfl, rfl, rfl, by decide +kernel, rfl, by decide +kernel, by decide +kernel⟩
theorem sc_refuse_if : FnScope ["is_so", "number"] ["is_so", "number"] (defScope s_refuse_if) := ⟨rfl, rfl, rfl, by decide +kernel, rfl, by decide +kernel, by decide +kernel⟩
theorem sc_is_grouping : FnScope ["desk", "number"] ["desk", "number"] (defScope s_is_grouping) := ⟨rfl, rfl, rfl, by decide +kernel, rfl, by decide +kernel, by decide +kernel⟩
theorem sc_need_groupings : FnScope ["desk", "numbers", "number"] ["desk", "numbers"] (defScope s_need_groupings) := ⟨rfl, rfl, rfl, by decide +kernel, rfl, by decide +kernel, by decide +kernel⟩
theorem sc_load : FnScope ["desk", "given", "table", "e"] ["desk", "given"] (defScope s_load) := ⟨rfl, rfl, rfl, by decide +kernel, rfl, by decide +kernel, by decide +kernel⟩
theorem sc_shown : FnScope ["desk", "given", "found"] ["desk", "given"] (defScope s_shown) := ⟨rfl, rfl, rfl, by decide +kernel, rfl, by decide +kernel, by decide +kernel⟩
theorem sc_wish : FnScope ["desk", "given"] ["desk", "given"] (defScope s_wish) := ⟨rfl, rfl, rfl, by decide +kernel, rfl, by decide +kernel, by decide +kernel⟩
theorem sc_plain : FnScope ["desk", "given", "found", "grouping"] ["desk", "given"] (defScope s_plain) := ⟨rfl, rfl, rfl, by decide +kernel, rfl, by decide +kernel, by decide +kernel⟩
theorem sc_told_with : FnScope ["desk", "helpers", "steps", "found", "step"] ["desk", "helpers"] (defScope s_told_with) := ⟨rfl, rfl, rfl, by decide +kernel, rfl, by decide +kernel, by decide +kernel⟩
theorem sc_best : FnScope ["desk", "given"] ["desk", "given"] (defScope s_best) := ⟨rfl, rfl, rfl, by decide +kernel, rfl, by decide +kernel, by decide +kernel⟩
theorem sc_is_step : FnScope ["desk", "grouping", "source"] ["desk", "grouping", "source"] (defScope s_is_step) := ⟨rfl, rfl, rfl, by decide +kernel, rfl, by decide +kernel, by decide +kernel⟩
theorem sc_check : FnScope ["desk", "given", "steps", "played", "is_right", "at", "grouping", "source"] ["desk", "given"] (defScope s_check) := ⟨rfl, rfl, rfl, by decide +kernel, rfl, by decide +kernel, by decide +kernel⟩
theorem sc_read_by : FnScope ["desk", "question", "grouping"] ["desk", "question"] (defScope s_read_by) := ⟨rfl, rfl, rfl, by decide +kernel, rfl, by decide +kernel, by decide +kernel⟩
theorem sc_idle : FnScope ["desk", "given", "read", "cost", "question", "times", "source", "found", "grouping"] ["desk", "given"] (defScope s_idle) := ⟨rfl, rfl, rfl, by decide +kernel, rfl, by decide +kernel, by decide +kernel⟩
theorem sc_from_all : FnScope ["desk", "given", "grouping", "other", "above", "found"] ["desk", "given"] (defScope s_from_all) := ⟨rfl, rfl, rfl, by decide +kernel, rfl, by decide +kernel, by decide +kernel⟩
theorem sc_with_helpers : FnScope ["desk", "given", "helpers", "helper"] ["desk", "given"] (defScope s_with_helpers) := ⟨rfl, rfl, rfl, by decide +kernel, rfl, by decide +kernel, by decide +kernel⟩
theorem sc_answered : FnScope ["desk", "number", "given", "deed", "e"] ["desk", "number", "given"] (defScope s_answered) := ⟨rfl, rfl, rfl, by decide +kernel, rfl, by decide +kernel, by decide +kernel⟩
theorem sc_answers : FnScope ["calls", "desk", "found", "at", "number", "given", "response"] ["calls"] (defScope s_answers) := ⟨rfl, rfl, rfl, by decide +kernel, rfl, by decide +kernel, by decide +kernel⟩
/-- what the top has written of Fault -/
structure XFault (K : PySem.W.Frag) (mg : Str → Option Value) (C fI : Addr) : Prop where
  c : XC K C
  g : mg "Fault" = some (.ref C)
  n_code : PySem.W.findIn K (.ref C) "code" = some none
  n_place : PySem.W.findIn K (.ref C) "place" = some none
  i : PySem.W.findIn K (.ref C) "__init__" = some (some (.ref fI))
  t : PySem.W.typeIn K (.ref fI) = some (.type "function")
  F : ∃ fd, Fun K "__init__" "Fault.__init__" s_Fault_init fI fd
def spIFault (C : Addr) : Sp := fun vs H Q _ => ∃ (a : Addr) (u0 u1 : V), vs = [.ref a, u0, u1] ∧ H a = some (exo a C none) ∧ ∀ dx, H dx = none → dx ≠ a → Q .non (upd (upd (upd H dx (exd dx [("code", u0)])) a (exo a C (some dx))) dx (exd dx [("place", u1), ("code", u0)]))
theorem ok_Fault_init {P : Program} {w : World} {K : PySem.W.Frag} {mg : Str → Option Value} {base : Heap} {C fI : Addr} (T : XFault K mg C fI) : ∃ fd, FnOk P w K mg base (L2.CX P w) 1 fI fd ["self", "code", "place"] (spIFault C) ∧ Binds K fd ["self", "code", "place"] [] := by
  obtain ⟨fd, F⟩ := T.F
  refine ⟨fd, F.okX sc_Fault_init (fun vs H Q E h => ?_) (fun cdv A outer s H vs Q E hr h => ⟨_, (pss_cons (ps_xst (pv 0) (pv 1)) (pss_one (ps_xst (pv 0) (pv 2)))), ?_⟩), F.binds fun _ _ _ _ _ _ us hl => match us, hl with | [_, _, _], _ => rfl⟩
  · obtain ⟨a, u0, u1, rfl, _⟩ := h
    rfl
  · obtain ⟨a, u0, u1, rfl, ha, k⟩ := h
    refine ⟨_, rfl, _, rfl, a, C, rfl, T.c, T.n_code, .inl ⟨ha, fun dx hd ne => ?_⟩⟩
    refine ⟨_, rfl, _, rfl, a, C, rfl, T.c, T.n_place, .inr ⟨dx, _, upd_same, ?_, ?_, k dx hd ne⟩⟩
    · rw [upd_ne ne, upd_same]
    · exact (by decide : 1 ≤ 900)
/-- raise Fault(..) -/
def tRaiseFault (C : Addr) (W : WX) (ta : TA) : TS := fun _ σ H => ta σ H fun vs H1 => ∃ u0 u1 : V, vs = [u0, u1] ∧ ∀ d, H1 d = none → W (.ref C) (some d) σ (upd H1 d (.xd [("place", u1), ("code", u0)]))
theorem ps_raiseFault {X : Cx} {C fI : Addr} {W : WX} {e : Expr} {es : List Expr} {ta : TA} {p pos pos2 : Pos} (hc : X.calm = true) (T : XFault X.K X.mg C fI) (hr : Room 2 X.A) (tk : Takes X W) (ha : PA X (e :: es) ta) (hg : Gl X "Fault" := by rfl)
    (he : starEach (e :: es) X.env = (false, eval e X.env) :: starEach es X.env := by rfl) (hpl : (backTo pos (starEach es X.env)).any (·.1) = false := by rfl) :
    PS X (.Raise (some (.Call (.Name "Fault" p) (e :: es) [] pos)) none pos2) (tRaiseFault C W ta) := by
  obtain ⟨fd, G, hb⟩ := ok_Fault_init (P := X.prog) (w := X.w) (base := X.base) T
  refine ps_raise hc tk (pmk_x T.c T.i T.t G hr hb passL T.g ha hg (R := fun vs H1 Q => ∃ u0 u1 : V, vs = [u0, u1] ∧ ∀ d, H1 d = none → Q (.ref C) (some d) (upd H1 d (.xd [("place", u1), ("code", u0)]))) (fun vs H1 Q h => ?_) (by decide) he hpl)
  obtain ⟨u0, u1, rfl, k⟩ := h
  refine ⟨(by decide : 2 ≤ 1000), fun a h0 => ⟨a, u0, u1, rfl, upd_same, fun dx hd ne => ⟨rfl, dx, [("place", u1), ("code", u0)], ?_, ?_, ?_, ?_⟩⟩⟩
  · rw [upd_ne (Ne.symm ne), upd_same]
  · exact upd_same
  · rw [upd_ne ne] at hd
    exact hd
  · rw [upd_ne ne] at hd
    rw [mk_left2 h0 ne]
    exact k dx hd
/-- what the top has written of Refused -/
structure XRefused (K : PySem.W.Frag) (mg : Str → Option Value) (C fI : Addr) : Prop where
  c : XC K C
  g : mg "Refused" = some (.ref C)
  n_number : PySem.W.findIn K (.ref C) "number" = some none
  i : PySem.W.findIn K (.ref C) "__init__" = some (some (.ref fI))
  t : PySem.W.typeIn K (.ref fI) = some (.type "function")
  F : ∃ fd, Fun K "__init__" "Refused.__init__" s_Refused_init fI fd
def spIRefused (C : Addr) : Sp := fun vs H Q _ => ∃ (a : Addr) (u0 : V), vs = [.ref a, u0] ∧ H a = some (exo a C none) ∧ ∀ dx, H dx = none → dx ≠ a → Q .non (upd (upd H dx (exd dx [("number", u0)])) a (exo a C (some dx)))
theorem ok_Refused_init {P : Program} {w : World} {K : PySem.W.Frag} {mg : Str → Option Value} {base : Heap} {C fI : Addr} (T : XRefused K mg C fI) : ∃ fd, FnOk P w K mg base (L2.CX P w) 1 fI fd ["self", "number"] (spIRefused C) ∧ Binds K fd ["self", "number"] [] := by
  obtain ⟨fd, F⟩ := T.F
  refine ⟨fd, F.okX sc_Refused_init (fun vs H Q E h => ?_) (fun cdv A outer s H vs Q E hr h => ⟨_, (pss_one (ps_xst (pv 0) (pv 1))), ?_⟩), F.binds fun _ _ _ _ _ _ us hl => match us, hl with | [_, _], _ => rfl⟩
  · obtain ⟨a, u0, rfl, _⟩ := h
    rfl
  · obtain ⟨a, u0, rfl, ha, k⟩ := h
    refine ⟨_, rfl, _, rfl, a, C, rfl, T.c, T.n_number, .inl ⟨ha, fun dx hd ne => k dx hd ne⟩⟩
/-- raise Refused(..) -/
def tRaiseRefused (C : Addr) (W : WX) (ta : TA) : TS := fun _ σ H => ta σ H fun vs H1 => ∃ u0 : V, vs = [u0] ∧ ∀ d, H1 d = none → W (.ref C) (some d) σ (upd H1 d (.xd [("number", u0)]))
theorem ps_raiseRefused {X : Cx} {C fI : Addr} {W : WX} {e : Expr} {es : List Expr} {ta : TA} {p pos pos2 : Pos} (hc : X.calm = true) (T : XRefused X.K X.mg C fI) (hr : Room 2 X.A) (tk : Takes X W) (ha : PA X (e :: es) ta) (hg : Gl X "Refused" := by rfl)
    (he : starEach (e :: es) X.env = (false, eval e X.env) :: starEach es X.env := by rfl) (hpl : (backTo pos (starEach es X.env)).any (·.1) = false := by rfl) :
    PS X (.Raise (some (.Call (.Name "Refused" p) (e :: es) [] pos)) none pos2) (tRaiseRefused C W ta) := by
  obtain ⟨fd, G, hb⟩ := ok_Refused_init (P := X.prog) (w := X.w) (base := X.base) T
  refine ps_raise hc tk (pmk_x T.c T.i T.t G hr hb passL T.g ha hg (R := fun vs H1 Q => ∃ u0 : V, vs = [u0] ∧ ∀ d, H1 d = none → Q (.ref C) (some d) (upd H1 d (.xd [("number", u0)]))) (fun vs H1 Q h => ?_) (by decide) he hpl)
  obtain ⟨u0, rfl, k⟩ := h
  refine ⟨(by decide : 1 ≤ 1000), fun a h0 => ⟨a, u0, rfl, upd_same, fun dx hd ne => ⟨rfl, dx, [("number", u0)], ?_, ?_, ?_, ?_⟩⟩⟩
  · exact upd_same
  · rw [upd_ne ne, upd_same]
  · rw [upd_ne ne] at hd
    exact hd
  · rw [upd_ne ne] at hd
    rw [mk_left h0 ne]
    exact k dx hd
end BA

namespace BA
open PySem PySem.Spec PyProof.Rows L2 Evl
/-- where the top has laid what it made -/
structure Ad where
  BLANKS : Addr
  WORDS : Addr
  WEIGHTS : Addr
  WITH_ROW : Addr
  SIGNS : Addr
  DEEDS : Addr
  c_Fault : Addr
  c_Token : Addr
  c_Table : Addr
  c_Parser : Addr
  c_Sizes : Addr
  c_Played : Addr
  c_Refused : Addr
  c_Desk : Addr
  f_Fault_init : Addr
  f_Token_init : Addr
  f_signs_of : Addr
  f_is_digit : Addr
  f_is_letter : Addr
  f_behind_blanks : Addr
  f_behind_name : Addr
  f_behind_digits : Addr
  f_name_token : Addr
  f_number_token : Addr
  f_tokens_of : Addr
  f_Table_init : Addr
  f_Table_groupings : Addr
  f_Parser_init : Addr
  f_Parser_here : Addr
  f_Parser_fail_if : Addr
  f_Parser_comes : Addr
  f_Parser_take : Addr
  f_Parser_passes : Addr
  f_Parser_take_number : Addr
  f_Parser_take_column : Addr
  f_Parser_take_columns : Addr
  f_Parser_take_row : Addr
  f_Parser_take_group : Addr
  f_Parser_take_question : Addr
  f_Parser_take_table : Addr
  f_read_table : Addr
  f_with_commas : Addr
  f_line_of : Addr
  f_columns_in : Addr
  f_one_form : Addr
  f_size_of : Addr
  f_has_all : Addr
  f_is_above : Addr
  f_column_count : Addr
  f_helper_number : Addr
  f_Sizes_init : Addr
  f_Sizes_smallest : Addr
  f_Sizes_parent_in : Addr
  f_Sizes_read_from : Addr
  f_Sizes_build_cost : Addr
  f_Sizes_cost_together : Addr
  f_Sizes_total : Addr
  f_sets_of : Addr
  f_best_helpers : Addr
  f_plan_with : Addr
  f_Played_init : Addr
  f_Played_play : Addr
  f_Refused_init : Addr
  f_Desk_init : Addr
  f_refuse_if : Addr
  f_is_grouping : Addr
  f_need_groupings : Addr
  f_load : Addr
  f_shown : Addr
  f_wish : Addr
  f_plain : Addr
  f_told_with : Addr
  f_best : Addr
  f_is_step : Addr
  f_check : Addr
  f_read_by : Addr
  f_idle : Addr
  f_from_all : Addr
  f_with_helpers : Addr
  f_answered : Addr
  f_answers : Addr
/-- what the top has written, so far as the defs ask for it -/
structure Txt (K : PySem.W.Frag) (mg : Str → Option Value) (a : Ad) : Prop where
  m_MOST_NAME : ∃ t, mg "MOST_NAME" = some (.int (16) t)
  m_MOST_NUMBER : ∃ t, mg "MOST_NUMBER" = some (.int (1000000000) t)
  m_NO_TOKEN : ∃ t, mg "NO_TOKEN" = some (.int (2) t)
  m_LINE : ∃ t, mg "LINE" = some (.int (10) t)
  m_REMARK : ∃ t, mg "REMARK" = some (.int (35) t)
  m_MOST_BYTES : ∃ t, mg "MOST_BYTES" = some (.int (4096) t)
  m_MOST_COLUMNS : ∃ t, mg "MOST_COLUMNS" = some (.int (4) t)
  m_MOST_ROWS : ∃ t, mg "MOST_ROWS" = some (.int (16) t)
  m_MOST_QUESTIONS : ∃ t, mg "MOST_QUESTIONS" = some (.int (8) t)
  m_MOST_VALUE : ∃ t, mg "MOST_VALUE" = some (.int (9) t)
  m_MOST_SUM : ∃ t, mg "MOST_SUM" = some (.int (1000) t)
  m_MOST_TIMES : ∃ t, mg "MOST_TIMES" = some (.int (99) t)
  m_TOO_LONG : ∃ t, mg "TOO_LONG" = some (.int (1) t)
  m_NOT_ALLOWED : ∃ t, mg "NOT_ALLOWED" = some (.int (3) t)
  m_TOO_MANY : ∃ t, mg "TOO_MANY" = some (.int (4) t)
  m_NAMED : ∃ t, mg "NAMED" = some (.int (5) t)
  m_TWICE : ∃ t, mg "TWICE" = some (.int (6) t)
  m_OUT : ∃ t, mg "OUT" = some (.int (7) t)
  m_NO_COLUMN : ∃ t, mg "NO_COLUMN" = some (.int (8) t)
  m_TABLE : ∃ t, mg "TABLE" = some (.int (-1) t)
  m_DROPPED : ∃ t, mg "DROPPED" = some (.int (-2) t)
  m_MOST_HELPERS : ∃ t, mg "MOST_HELPERS" = some (.int (3) t)
  m_NO_TABLE : ∃ t, mg "NO_TABLE" = some (.int (-1) t)
  m_NO_GROUPING : ∃ t, mg "NO_GROUPING" = some (.int (-2) t)
  m_IS_WISHED : ∃ t, mg "IS_WISHED" = some (.int (-3) t)
  m_NO_PLAN : ∃ t, mg "NO_PLAN" = some (.int (-4) t)
  m_LOAD : ∃ t, mg "LOAD" = some (.int (0) t)
  m_WITH_NUMBER : ∃ t, mg "WITH_NUMBER" = some (.int (7) t)
  m_NAME : ∃ t, mg "NAME" = some (.str "name" t)
  m_NUMBER : ∃ t, mg "NUMBER" = some (.str "number" t)
  m_WORD : ∃ t, mg "WORD" = some (.str "word" t)
  m_SIGN : ∃ t, mg "SIGN" = some (.str "sign" t)
  m_END : ∃ t, mg "END" = some (.str "end" t)
  m_BLANKS : mg "BLANKS" = some (.ref a.BLANKS)
  t_BLANKS : ∀ H, SqT K H a.BLANKS [.int 32, .int 9, .int 10]
  m_WORDS : mg "WORDS" = some (.ref a.WORDS)
  t_WORDS : ∀ H, SqT K H a.WORDS [.str "columns", .str "row", .str "ask", .str "times"]
  m_WEIGHTS : mg "WEIGHTS" = some (.ref a.WEIGHTS)
  t_WEIGHTS : ∀ H, SqT K H a.WEIGHTS [.int 1, .int 2, .int 4, .int 8, .int 16]
  m_WITH_ROW : mg "WITH_ROW" = some (.ref a.WITH_ROW)
  t_WITH_ROW : ∀ H, SqT K H a.WITH_ROW [.int 0, .int 2, .int 5, .int 8]
  m_SIGNS : mg "SIGNS" = some (.ref a.SIGNS)
  m_DEEDS : mg "DEEDS" = some (.ref a.DEEDS)
  d_SIGNS : KdI K a.SIGNS [(44, .str ","), (58, .str ":"), (59, .str ";"), (45, .str "-")]
  d_DEEDS : KdI K a.DEEDS [(0, .ref a.f_load), (1, .ref a.f_shown), (2, .ref a.f_wish), (3, .ref a.f_plain), (4, .ref a.f_best), (5, .ref a.f_check), (6, .ref a.f_idle), (7, .ref a.f_from_all), (8, .ref a.f_with_helpers)]
  b_tuple : mg "tuple" = none
  b_ord : mg "ord" = none
  b_len : mg "len" = none
  b_range : mg "range" = none
  b_enumerate : mg "enumerate" = none
  b_list : mg "list" = none
  b_str : mg "str" = none
  b_sum : mg "sum" = none
  b_sorted : mg "sorted" = none
  b_all : mg "all" = none
  b_set : mg "set" = none
  b_max : mg "max" = none
  b_any : mg "any" = none
  b_int : mg "int" = none
  x_Fault : XFault K mg a.c_Fault a.f_Fault_init
  m_Token : mg "Token" = some (.ref a.c_Token)
  cl_Token : Cls K a.c_Token
  mk_Token : Mk K a.c_Token a.f_Token_init
  n_Token_kind : NoAttr K a.c_Token "kind"
  n_Token_value : NoAttr K a.c_Token "value"
  n_Token_place : NoAttr K a.c_Token "place"
  m_Table : mg "Table" = some (.ref a.c_Table)
  cl_Table : Cls K a.c_Table
  mk_Table : Mk K a.c_Table a.f_Table_init
  n_Table_columns : NoAttr K a.c_Table "columns"
  n_Table_rows : NoAttr K a.c_Table "rows"
  n_Table_questions : NoAttr K a.c_Table "questions"
  me_Table_groupings : Meth K a.c_Table "groupings" a.f_Table_groupings
  m_Parser : mg "Parser" = some (.ref a.c_Parser)
  cl_Parser : Cls K a.c_Parser
  mk_Parser : Mk K a.c_Parser a.f_Parser_init
  n_Parser_tokens : NoAttr K a.c_Parser "tokens"
  n_Parser_at : NoAttr K a.c_Parser "at"
  n_Parser_table : NoAttr K a.c_Parser "table"
  me_Parser_here : Meth K a.c_Parser "here" a.f_Parser_here
  me_Parser_fail_if : Meth K a.c_Parser "fail_if" a.f_Parser_fail_if
  me_Parser_comes : Meth K a.c_Parser "comes" a.f_Parser_comes
  me_Parser_take : Meth K a.c_Parser "take" a.f_Parser_take
  me_Parser_passes : Meth K a.c_Parser "passes" a.f_Parser_passes
  me_Parser_take_number : Meth K a.c_Parser "take_number" a.f_Parser_take_number
  me_Parser_take_column : Meth K a.c_Parser "take_column" a.f_Parser_take_column
  me_Parser_take_columns : Meth K a.c_Parser "take_columns" a.f_Parser_take_columns
  me_Parser_take_row : Meth K a.c_Parser "take_row" a.f_Parser_take_row
  me_Parser_take_group : Meth K a.c_Parser "take_group" a.f_Parser_take_group
  me_Parser_take_question : Meth K a.c_Parser "take_question" a.f_Parser_take_question
  me_Parser_take_table : Meth K a.c_Parser "take_table" a.f_Parser_take_table
  m_Sizes : mg "Sizes" = some (.ref a.c_Sizes)
  cl_Sizes : Cls K a.c_Sizes
  mk_Sizes : Mk K a.c_Sizes a.f_Sizes_init
  n_Sizes_rows : NoAttr K a.c_Sizes "rows"
  n_Sizes_lines : NoAttr K a.c_Sizes "lines"
  me_Sizes_smallest : Meth K a.c_Sizes "smallest" a.f_Sizes_smallest
  me_Sizes_parent_in : Meth K a.c_Sizes "parent_in" a.f_Sizes_parent_in
  me_Sizes_read_from : Meth K a.c_Sizes "read_from" a.f_Sizes_read_from
  me_Sizes_build_cost : Meth K a.c_Sizes "build_cost" a.f_Sizes_build_cost
  me_Sizes_cost_together : Meth K a.c_Sizes "cost_together" a.f_Sizes_cost_together
  me_Sizes_total : Meth K a.c_Sizes "total" a.f_Sizes_total
  m_Played : mg "Played" = some (.ref a.c_Played)
  cl_Played : Cls K a.c_Played
  mk_Played : Mk K a.c_Played a.f_Played_init
  n_Played_sizes : NoAttr K a.c_Played "sizes"
  n_Played_steps : NoAttr K a.c_Played "steps"
  n_Played_cost : NoAttr K a.c_Played "cost"
  n_Played_most : NoAttr K a.c_Played "most"
  n_Played_there : NoAttr K a.c_Played "there"
  me_Played_play : Meth K a.c_Played "play" a.f_Played_play
  x_Refused : XRefused K mg a.c_Refused a.f_Refused_init
  m_Desk : mg "Desk" = some (.ref a.c_Desk)
  cl_Desk : Cls K a.c_Desk
  mk_Desk : Mk K a.c_Desk a.f_Desk_init
  n_Desk_table : NoAttr K a.c_Desk "table"
  n_Desk_sizes : NoAttr K a.c_Desk "sizes"
  n_Desk_wished : NoAttr K a.c_Desk "wished"
  F_Token_init : ∃ fd, Fun K "__init__" "Token.__init__" s_Token_init a.f_Token_init fd
  k_Token_init : PySem.W.keepIn K (.ref a.f_Token_init) = true
  F_signs_of : ∃ fd, Fun K "signs_of" "signs_of" s_signs_of a.f_signs_of fd
  k_signs_of : PySem.W.keepIn K (.ref a.f_signs_of) = true
  m_signs_of : mg "signs_of" = some (.ref a.f_signs_of)
  F_is_digit : ∃ fd, Fun K "is_digit" "is_digit" s_is_digit a.f_is_digit fd
  k_is_digit : PySem.W.keepIn K (.ref a.f_is_digit) = true
  m_is_digit : mg "is_digit" = some (.ref a.f_is_digit)
  F_is_letter : ∃ fd, Fun K "is_letter" "is_letter" s_is_letter a.f_is_letter fd
  k_is_letter : PySem.W.keepIn K (.ref a.f_is_letter) = true
  m_is_letter : mg "is_letter" = some (.ref a.f_is_letter)
  F_behind_blanks : ∃ fd, Fun K "behind_blanks" "behind_blanks" s_behind_blanks a.f_behind_blanks fd
  k_behind_blanks : PySem.W.keepIn K (.ref a.f_behind_blanks) = true
  m_behind_blanks : mg "behind_blanks" = some (.ref a.f_behind_blanks)
  F_behind_name : ∃ fd, Fun K "behind_name" "behind_name" s_behind_name a.f_behind_name fd
  k_behind_name : PySem.W.keepIn K (.ref a.f_behind_name) = true
  m_behind_name : mg "behind_name" = some (.ref a.f_behind_name)
  F_behind_digits : ∃ fd, Fun K "behind_digits" "behind_digits" s_behind_digits a.f_behind_digits fd
  k_behind_digits : PySem.W.keepIn K (.ref a.f_behind_digits) = true
  m_behind_digits : mg "behind_digits" = some (.ref a.f_behind_digits)
  F_name_token : ∃ fd, Fun K "name_token" "name_token" s_name_token a.f_name_token fd
  k_name_token : PySem.W.keepIn K (.ref a.f_name_token) = true
  m_name_token : mg "name_token" = some (.ref a.f_name_token)
  F_number_token : ∃ fd, Fun K "number_token" "number_token" s_number_token a.f_number_token fd
  k_number_token : PySem.W.keepIn K (.ref a.f_number_token) = true
  m_number_token : mg "number_token" = some (.ref a.f_number_token)
  F_tokens_of : ∃ fd, Fun K "tokens_of" "tokens_of" s_tokens_of a.f_tokens_of fd
  k_tokens_of : PySem.W.keepIn K (.ref a.f_tokens_of) = true
  m_tokens_of : mg "tokens_of" = some (.ref a.f_tokens_of)
  F_Table_init : ∃ fd, Fun K "__init__" "Table.__init__" s_Table_init a.f_Table_init fd
  k_Table_init : PySem.W.keepIn K (.ref a.f_Table_init) = true
  F_Table_groupings : ∃ fd, Fun K "groupings" "Table.groupings" s_Table_groupings a.f_Table_groupings fd
  k_Table_groupings : PySem.W.keepIn K (.ref a.f_Table_groupings) = true
  F_Parser_init : ∃ fd, Fun K "__init__" "Parser.__init__" s_Parser_init a.f_Parser_init fd
  k_Parser_init : PySem.W.keepIn K (.ref a.f_Parser_init) = true
  F_Parser_here : ∃ fd, Fun K "here" "Parser.here" s_Parser_here a.f_Parser_here fd
  k_Parser_here : PySem.W.keepIn K (.ref a.f_Parser_here) = true
  F_Parser_fail_if : ∃ fd, Fun K "fail_if" "Parser.fail_if" s_Parser_fail_if a.f_Parser_fail_if fd
  k_Parser_fail_if : PySem.W.keepIn K (.ref a.f_Parser_fail_if) = true
  F_Parser_comes : ∃ fd, Fun K "comes" "Parser.comes" s_Parser_comes a.f_Parser_comes fd
  k_Parser_comes : PySem.W.keepIn K (.ref a.f_Parser_comes) = true
  F_Parser_take : ∃ fd, Fun K "take" "Parser.take" s_Parser_take a.f_Parser_take fd
  k_Parser_take : PySem.W.keepIn K (.ref a.f_Parser_take) = true
  F_Parser_passes : ∃ fd, Fun K "passes" "Parser.passes" s_Parser_passes a.f_Parser_passes fd
  k_Parser_passes : PySem.W.keepIn K (.ref a.f_Parser_passes) = true
  F_Parser_take_number : ∃ fd, Fun K "take_number" "Parser.take_number" s_Parser_take_number a.f_Parser_take_number fd
  k_Parser_take_number : PySem.W.keepIn K (.ref a.f_Parser_take_number) = true
  F_Parser_take_column : ∃ fd, Fun K "take_column" "Parser.take_column" s_Parser_take_column a.f_Parser_take_column fd
  k_Parser_take_column : PySem.W.keepIn K (.ref a.f_Parser_take_column) = true
  F_Parser_take_columns : ∃ fd, Fun K "take_columns" "Parser.take_columns" s_Parser_take_columns a.f_Parser_take_columns fd
  k_Parser_take_columns : PySem.W.keepIn K (.ref a.f_Parser_take_columns) = true
  F_Parser_take_row : ∃ fd, Fun K "take_row" "Parser.take_row" s_Parser_take_row a.f_Parser_take_row fd
  k_Parser_take_row : PySem.W.keepIn K (.ref a.f_Parser_take_row) = true
  F_Parser_take_group : ∃ fd, Fun K "take_group" "Parser.take_group" s_Parser_take_group a.f_Parser_take_group fd
  k_Parser_take_group : PySem.W.keepIn K (.ref a.f_Parser_take_group) = true
  F_Parser_take_question : ∃ fd, Fun K "take_question" "Parser.take_question" s_Parser_take_question a.f_Parser_take_question fd
  k_Parser_take_question : PySem.W.keepIn K (.ref a.f_Parser_take_question) = true
  F_Parser_take_table : ∃ fd, Fun K "take_table" "Parser.take_table" s_Parser_take_table a.f_Parser_take_table fd
  k_Parser_take_table : PySem.W.keepIn K (.ref a.f_Parser_take_table) = true
  F_read_table : ∃ fd, Fun K "read_table" "read_table" s_read_table a.f_read_table fd
  k_read_table : PySem.W.keepIn K (.ref a.f_read_table) = true
  m_read_table : mg "read_table" = some (.ref a.f_read_table)
  F_with_commas : ∃ fd, Fun K "with_commas" "with_commas" s_with_commas a.f_with_commas fd
  k_with_commas : PySem.W.keepIn K (.ref a.f_with_commas) = true
  m_with_commas : mg "with_commas" = some (.ref a.f_with_commas)
  F_line_of : ∃ fd, Fun K "line_of" "line_of" s_line_of a.f_line_of fd
  k_line_of : PySem.W.keepIn K (.ref a.f_line_of) = true
  m_line_of : mg "line_of" = some (.ref a.f_line_of)
  F_columns_in : ∃ fd, Fun K "columns_in" "columns_in" s_columns_in a.f_columns_in fd
  k_columns_in : PySem.W.keepIn K (.ref a.f_columns_in) = true
  m_columns_in : mg "columns_in" = some (.ref a.f_columns_in)
  F_one_form : ∃ fd, Fun K "one_form" "one_form" s_one_form a.f_one_form fd
  k_one_form : PySem.W.keepIn K (.ref a.f_one_form) = true
  m_one_form : mg "one_form" = some (.ref a.f_one_form)
  F_size_of : ∃ fd, Fun K "size_of" "size_of" s_size_of a.f_size_of fd
  k_size_of : PySem.W.keepIn K (.ref a.f_size_of) = true
  m_size_of : mg "size_of" = some (.ref a.f_size_of)
  F_has_all : ∃ fd, Fun K "has_all" "has_all" s_has_all a.f_has_all fd
  k_has_all : PySem.W.keepIn K (.ref a.f_has_all) = true
  m_has_all : mg "has_all" = some (.ref a.f_has_all)
  F_is_above : ∃ fd, Fun K "is_above" "is_above" s_is_above a.f_is_above fd
  k_is_above : PySem.W.keepIn K (.ref a.f_is_above) = true
  m_is_above : mg "is_above" = some (.ref a.f_is_above)
  F_column_count : ∃ fd, Fun K "column_count" "column_count" s_column_count a.f_column_count fd
  k_column_count : PySem.W.keepIn K (.ref a.f_column_count) = true
  m_column_count : mg "column_count" = some (.ref a.f_column_count)
  F_helper_number : ∃ fd, Fun K "helper_number" "helper_number" s_helper_number a.f_helper_number fd
  k_helper_number : PySem.W.keepIn K (.ref a.f_helper_number) = true
  m_helper_number : mg "helper_number" = some (.ref a.f_helper_number)
  F_Sizes_init : ∃ fd, Fun K "__init__" "Sizes.__init__" s_Sizes_init a.f_Sizes_init fd
  k_Sizes_init : PySem.W.keepIn K (.ref a.f_Sizes_init) = true
  F_Sizes_smallest : ∃ fd, Fun K "smallest" "Sizes.smallest" s_Sizes_smallest a.f_Sizes_smallest fd
  k_Sizes_smallest : PySem.W.keepIn K (.ref a.f_Sizes_smallest) = true
  F_Sizes_parent_in : ∃ fd, Fun K "parent_in" "Sizes.parent_in" s_Sizes_parent_in a.f_Sizes_parent_in fd
  k_Sizes_parent_in : PySem.W.keepIn K (.ref a.f_Sizes_parent_in) = true
  F_Sizes_read_from : ∃ fd, Fun K "read_from" "Sizes.read_from" s_Sizes_read_from a.f_Sizes_read_from fd
  k_Sizes_read_from : PySem.W.keepIn K (.ref a.f_Sizes_read_from) = true
  F_Sizes_build_cost : ∃ fd, Fun K "build_cost" "Sizes.build_cost" s_Sizes_build_cost a.f_Sizes_build_cost fd
  k_Sizes_build_cost : PySem.W.keepIn K (.ref a.f_Sizes_build_cost) = true
  F_Sizes_cost_together : ∃ fd, Fun K "cost_together" "Sizes.cost_together" s_Sizes_cost_together a.f_Sizes_cost_together fd
  k_Sizes_cost_together : PySem.W.keepIn K (.ref a.f_Sizes_cost_together) = true
  F_Sizes_total : ∃ fd, Fun K "total" "Sizes.total" s_Sizes_total a.f_Sizes_total fd
  k_Sizes_total : PySem.W.keepIn K (.ref a.f_Sizes_total) = true
  F_sets_of : ∃ fd, Fun K "sets_of" "sets_of" s_sets_of a.f_sets_of fd
  k_sets_of : PySem.W.keepIn K (.ref a.f_sets_of) = true
  m_sets_of : mg "sets_of" = some (.ref a.f_sets_of)
  F_best_helpers : ∃ fd, Fun K "best_helpers" "best_helpers" s_best_helpers a.f_best_helpers fd
  k_best_helpers : PySem.W.keepIn K (.ref a.f_best_helpers) = true
  m_best_helpers : mg "best_helpers" = some (.ref a.f_best_helpers)
  F_plan_with : ∃ fd, Fun K "plan_with" "plan_with" s_plan_with a.f_plan_with fd
  k_plan_with : PySem.W.keepIn K (.ref a.f_plan_with) = true
  m_plan_with : mg "plan_with" = some (.ref a.f_plan_with)
  F_Played_init : ∃ fd, Fun K "__init__" "Played.__init__" s_Played_init a.f_Played_init fd
  k_Played_init : PySem.W.keepIn K (.ref a.f_Played_init) = true
  F_Played_play : ∃ fd, Fun K "play" "Played.play" s_Played_play a.f_Played_play fd
  k_Played_play : PySem.W.keepIn K (.ref a.f_Played_play) = true
  F_Desk_init : ∃ fd, Fun K "__init__" "Desk.__init__" s_Desk_init a.f_Desk_init fd
  k_Desk_init : PySem.W.keepIn K (.ref a.f_Desk_init) = true
  F_refuse_if : ∃ fd, Fun K "refuse_if" "refuse_if" s_refuse_if a.f_refuse_if fd
  k_refuse_if : PySem.W.keepIn K (.ref a.f_refuse_if) = true
  m_refuse_if : mg "refuse_if" = some (.ref a.f_refuse_if)
  F_is_grouping : ∃ fd, Fun K "is_grouping" "is_grouping" s_is_grouping a.f_is_grouping fd
  k_is_grouping : PySem.W.keepIn K (.ref a.f_is_grouping) = true
  m_is_grouping : mg "is_grouping" = some (.ref a.f_is_grouping)
  F_need_groupings : ∃ fd, Fun K "need_groupings" "need_groupings" s_need_groupings a.f_need_groupings fd
  k_need_groupings : PySem.W.keepIn K (.ref a.f_need_groupings) = true
  m_need_groupings : mg "need_groupings" = some (.ref a.f_need_groupings)
  F_load : ∃ fd, Fun K "load" "load" s_load a.f_load fd
  k_load : PySem.W.keepIn K (.ref a.f_load) = true
  m_load : mg "load" = some (.ref a.f_load)
  F_shown : ∃ fd, Fun K "shown" "shown" s_shown a.f_shown fd
  k_shown : PySem.W.keepIn K (.ref a.f_shown) = true
  m_shown : mg "shown" = some (.ref a.f_shown)
  F_wish : ∃ fd, Fun K "wish" "wish" s_wish a.f_wish fd
  k_wish : PySem.W.keepIn K (.ref a.f_wish) = true
  m_wish : mg "wish" = some (.ref a.f_wish)
  F_plain : ∃ fd, Fun K "plain" "plain" s_plain a.f_plain fd
  k_plain : PySem.W.keepIn K (.ref a.f_plain) = true
  m_plain : mg "plain" = some (.ref a.f_plain)
  F_told_with : ∃ fd, Fun K "told_with" "told_with" s_told_with a.f_told_with fd
  k_told_with : PySem.W.keepIn K (.ref a.f_told_with) = true
  m_told_with : mg "told_with" = some (.ref a.f_told_with)
  F_best : ∃ fd, Fun K "best" "best" s_best a.f_best fd
  k_best : PySem.W.keepIn K (.ref a.f_best) = true
  m_best : mg "best" = some (.ref a.f_best)
  F_is_step : ∃ fd, Fun K "is_step" "is_step" s_is_step a.f_is_step fd
  k_is_step : PySem.W.keepIn K (.ref a.f_is_step) = true
  m_is_step : mg "is_step" = some (.ref a.f_is_step)
  F_check : ∃ fd, Fun K "check" "check" s_check a.f_check fd
  k_check : PySem.W.keepIn K (.ref a.f_check) = true
  m_check : mg "check" = some (.ref a.f_check)
  F_read_by : ∃ fd, Fun K "read_by" "read_by" s_read_by a.f_read_by fd
  k_read_by : PySem.W.keepIn K (.ref a.f_read_by) = true
  m_read_by : mg "read_by" = some (.ref a.f_read_by)
  F_idle : ∃ fd, Fun K "idle" "idle" s_idle a.f_idle fd
  k_idle : PySem.W.keepIn K (.ref a.f_idle) = true
  m_idle : mg "idle" = some (.ref a.f_idle)
  F_from_all : ∃ fd, Fun K "from_all" "from_all" s_from_all a.f_from_all fd
  k_from_all : PySem.W.keepIn K (.ref a.f_from_all) = true
  m_from_all : mg "from_all" = some (.ref a.f_from_all)
  F_with_helpers : ∃ fd, Fun K "with_helpers" "with_helpers" s_with_helpers a.f_with_helpers fd
  k_with_helpers : PySem.W.keepIn K (.ref a.f_with_helpers) = true
  m_with_helpers : mg "with_helpers" = some (.ref a.f_with_helpers)
  F_answered : ∃ fd, Fun K "answered" "answered" s_answered a.f_answered fd
  k_answered : PySem.W.keepIn K (.ref a.f_answered) = true
  m_answered : mg "answered" = some (.ref a.f_answered)
  F_answers : ∃ fd, Fun K "answers" "answers" s_answers a.f_answers fd
  k_answers : PySem.W.keepIn K (.ref a.f_answers) = true
  m_answers : mg "answers" = some (.ref a.f_answers)
theorem txt_mk {K : PySem.W.Frag} {h : Heap} {mg : Str → Option Value} (X : K.In h) (G : h.Ns mainGlobals mg)
    {BLANKS WORDS WEIGHTS WITH_ROW SIGNS DEEDS c_Fault f_Fault_init c_Token c_Table c_Parser c_Sizes c_Played c_Refused f_Refused_init c_Desk f_Token_init f_signs_of f_is_digit f_is_letter f_behind_blanks f_behind_name f_behind_digits f_name_token f_number_token f_tokens_of f_Table_init f_Table_groupings f_Parser_init f_Parser_here f_Parser_fail_if f_Parser_comes f_Parser_take f_Parser_passes f_Parser_take_number f_Parser_take_column f_Parser_take_columns f_Parser_take_row f_Parser_take_group f_Parser_take_question f_Parser_take_table f_read_table f_with_commas f_line_of f_columns_in f_one_form f_size_of f_has_all f_is_above f_column_count f_helper_number f_Sizes_init f_Sizes_smallest f_Sizes_parent_in f_Sizes_read_from f_Sizes_build_cost f_Sizes_cost_together f_Sizes_total f_sets_of f_best_helpers f_plan_with f_Played_init f_Played_play f_Desk_init f_refuse_if f_is_grouping f_need_groupings f_load f_shown f_wish f_plain f_told_with f_best f_is_step f_check f_read_by f_idle f_from_all f_with_helpers f_answered f_answers : Addr} {t1 t2 t3 t4 t5 t6 t7 t8 t9 t10 t11 t12 t13 t14 t15 t16 t17 t18 t19 t20 t21 t22 t23 t24 t25 t26 t27 t28 t29 t30 t31 t32 t33 t34 t35 t36 t37 t38 t39 t40 t41 t42 t43 t44 t45 t46 t47 t48 t49 t50 t51 t52 t53 t54 t55 t56 t57 t58 t59 t60 t61 t62 t63 t64 t65 t66 : Tok}
    {odBLANKS odWORDS odWEIGHTS odWITH_ROW dd_Fault od_Fault_init an_Fault_init dd_Refused od_Refused_init an_Refused_init od_Token_init an_Token_init od_signs_of an_signs_of od_is_digit an_is_digit od_is_letter an_is_letter od_behind_blanks an_behind_blanks od_behind_name an_behind_name od_behind_digits an_behind_digits od_name_token an_name_token od_number_token an_number_token od_tokens_of an_tokens_of od_Table_init an_Table_init od_Table_groupings an_Table_groupings od_Parser_init an_Parser_init od_Parser_here an_Parser_here od_Parser_fail_if an_Parser_fail_if od_Parser_comes an_Parser_comes od_Parser_take an_Parser_take od_Parser_passes an_Parser_passes od_Parser_take_number an_Parser_take_number od_Parser_take_column an_Parser_take_column od_Parser_take_columns an_Parser_take_columns od_Parser_take_row an_Parser_take_row od_Parser_take_group an_Parser_take_group od_Parser_take_question an_Parser_take_question od_Parser_take_table an_Parser_take_table od_read_table an_read_table od_with_commas an_with_commas od_line_of an_line_of od_columns_in an_columns_in od_one_form an_one_form od_size_of an_size_of od_has_all an_has_all od_is_above an_is_above od_column_count an_column_count od_helper_number an_helper_number od_Sizes_init an_Sizes_init od_Sizes_smallest an_Sizes_smallest od_Sizes_parent_in an_Sizes_parent_in od_Sizes_read_from an_Sizes_read_from od_Sizes_build_cost an_Sizes_build_cost od_Sizes_cost_together an_Sizes_cost_together od_Sizes_total an_Sizes_total od_sets_of an_sets_of od_best_helpers an_best_helpers od_plan_with an_plan_with od_Played_init an_Played_init od_Played_play an_Played_play od_Desk_init an_Desk_init od_refuse_if an_refuse_if od_is_grouping an_is_grouping od_need_groupings an_need_groupings od_load an_load od_shown an_shown od_wish an_wish od_plain an_plain od_told_with an_told_with od_best an_best od_is_step an_is_step od_check an_check od_read_by an_read_by od_idle an_idle od_from_all an_from_all od_with_helpers an_with_helpers od_answered an_answered od_answers an_answers : Option Addr}
    {nnBLANKS nnWORDS nnWEIGHTS nnWITH_ROW nnSIGNS nnDEEDS : Nat}
    {slBLANKS slWORDS slWEIGHTS slWITH_ROW sl_Fault_init sl_Refused_init sl_Token_init sl_signs_of sl_is_digit sl_is_letter sl_behind_blanks sl_behind_name sl_behind_digits sl_name_token sl_number_token sl_tokens_of sl_Table_init sl_Table_groupings sl_Parser_init sl_Parser_here sl_Parser_fail_if sl_Parser_comes sl_Parser_take sl_Parser_passes sl_Parser_take_number sl_Parser_take_column sl_Parser_take_columns sl_Parser_take_row sl_Parser_take_group sl_Parser_take_question sl_Parser_take_table sl_read_table sl_with_commas sl_line_of sl_columns_in sl_one_form sl_size_of sl_has_all sl_is_above sl_column_count sl_helper_number sl_Sizes_init sl_Sizes_smallest sl_Sizes_parent_in sl_Sizes_read_from sl_Sizes_build_cost sl_Sizes_cost_together sl_Sizes_total sl_sets_of sl_best_helpers sl_plan_with sl_Played_init sl_Played_play sl_Desk_init sl_refuse_if sl_is_grouping sl_need_groupings sl_load sl_shown sl_wish sl_plain sl_told_with sl_best sl_is_step sl_check sl_read_by sl_idle sl_from_all sl_with_helpers sl_answered sl_answers : Array (Option Value)}
    {nm_Fault q_Fault nm_Refused q_Refused : Str}
    {N_Fault N_Refused : Addr}
    {bs_Fault sub_Fault bs_Refused sub_Refused : List Value}
    {sn_Fault sn_Refused : List Str}
    {ab_Fault ab_Refused : Bool}
    {col_Fault col_Refused : Option Bool}
    {k0_Fault k1_Fault k2_Fault k3_Fault k5_Fault k0_Refused k1_Refused k2_Refused k3_Refused k5_Refused : Option Value}
    {oc_Fault_init kV_Fault_init dc_Fault_init pm_Fault_init cd_Fault_init ct_Fault_init oc_Refused_init kV_Refused_init dc_Refused_init pm_Refused_init cd_Refused_init ct_Refused_init oc_Token_init kV_Token_init dc_Token_init pm_Token_init cd_Token_init ct_Token_init oc_signs_of kV_signs_of dc_signs_of pm_signs_of cd_signs_of ct_signs_of oc_is_digit kV_is_digit dc_is_digit pm_is_digit cd_is_digit ct_is_digit oc_is_letter kV_is_letter dc_is_letter pm_is_letter cd_is_letter ct_is_letter oc_behind_blanks kV_behind_blanks dc_behind_blanks pm_behind_blanks cd_behind_blanks ct_behind_blanks oc_behind_name kV_behind_name dc_behind_name pm_behind_name cd_behind_name ct_behind_name oc_behind_digits kV_behind_digits dc_behind_digits pm_behind_digits cd_behind_digits ct_behind_digits oc_name_token kV_name_token dc_name_token pm_name_token cd_name_token ct_name_token oc_number_token kV_number_token dc_number_token pm_number_token cd_number_token ct_number_token oc_tokens_of kV_tokens_of dc_tokens_of pm_tokens_of cd_tokens_of ct_tokens_of oc_Table_init kV_Table_init dc_Table_init pm_Table_init cd_Table_init ct_Table_init oc_Table_groupings kV_Table_groupings dc_Table_groupings pm_Table_groupings cd_Table_groupings ct_Table_groupings oc_Parser_init kV_Parser_init dc_Parser_init pm_Parser_init cd_Parser_init ct_Parser_init oc_Parser_here kV_Parser_here dc_Parser_here pm_Parser_here cd_Parser_here ct_Parser_here oc_Parser_fail_if kV_Parser_fail_if dc_Parser_fail_if pm_Parser_fail_if cd_Parser_fail_if ct_Parser_fail_if oc_Parser_comes kV_Parser_comes dc_Parser_comes pm_Parser_comes cd_Parser_comes ct_Parser_comes oc_Parser_take kV_Parser_take dc_Parser_take pm_Parser_take cd_Parser_take ct_Parser_take oc_Parser_passes kV_Parser_passes dc_Parser_passes pm_Parser_passes cd_Parser_passes ct_Parser_passes oc_Parser_take_number kV_Parser_take_number dc_Parser_take_number pm_Parser_take_number cd_Parser_take_number ct_Parser_take_number oc_Parser_take_column kV_Parser_take_column dc_Parser_take_column pm_Parser_take_column cd_Parser_take_column ct_Parser_take_column oc_Parser_take_columns kV_Parser_take_columns dc_Parser_take_columns pm_Parser_take_columns cd_Parser_take_columns ct_Parser_take_columns oc_Parser_take_row kV_Parser_take_row dc_Parser_take_row pm_Parser_take_row cd_Parser_take_row ct_Parser_take_row oc_Parser_take_group kV_Parser_take_group dc_Parser_take_group pm_Parser_take_group cd_Parser_take_group ct_Parser_take_group oc_Parser_take_question kV_Parser_take_question dc_Parser_take_question pm_Parser_take_question cd_Parser_take_question ct_Parser_take_question oc_Parser_take_table kV_Parser_take_table dc_Parser_take_table pm_Parser_take_table cd_Parser_take_table ct_Parser_take_table oc_read_table kV_read_table dc_read_table pm_read_table cd_read_table ct_read_table oc_with_commas kV_with_commas dc_with_commas pm_with_commas cd_with_commas ct_with_commas oc_line_of kV_line_of dc_line_of pm_line_of cd_line_of ct_line_of oc_columns_in kV_columns_in dc_columns_in pm_columns_in cd_columns_in ct_columns_in oc_one_form kV_one_form dc_one_form pm_one_form cd_one_form ct_one_form oc_size_of kV_size_of dc_size_of pm_size_of cd_size_of ct_size_of oc_has_all kV_has_all dc_has_all pm_has_all cd_has_all ct_has_all oc_is_above kV_is_above dc_is_above pm_is_above cd_is_above ct_is_above oc_column_count kV_column_count dc_column_count pm_column_count cd_column_count ct_column_count oc_helper_number kV_helper_number dc_helper_number pm_helper_number cd_helper_number ct_helper_number oc_Sizes_init kV_Sizes_init dc_Sizes_init pm_Sizes_init cd_Sizes_init ct_Sizes_init oc_Sizes_smallest kV_Sizes_smallest dc_Sizes_smallest pm_Sizes_smallest cd_Sizes_smallest ct_Sizes_smallest oc_Sizes_parent_in kV_Sizes_parent_in dc_Sizes_parent_in pm_Sizes_parent_in cd_Sizes_parent_in ct_Sizes_parent_in oc_Sizes_read_from kV_Sizes_read_from dc_Sizes_read_from pm_Sizes_read_from cd_Sizes_read_from ct_Sizes_read_from oc_Sizes_build_cost kV_Sizes_build_cost dc_Sizes_build_cost pm_Sizes_build_cost cd_Sizes_build_cost ct_Sizes_build_cost oc_Sizes_cost_together kV_Sizes_cost_together dc_Sizes_cost_together pm_Sizes_cost_together cd_Sizes_cost_together ct_Sizes_cost_together oc_Sizes_total kV_Sizes_total dc_Sizes_total pm_Sizes_total cd_Sizes_total ct_Sizes_total oc_sets_of kV_sets_of dc_sets_of pm_sets_of cd_sets_of ct_sets_of oc_best_helpers kV_best_helpers dc_best_helpers pm_best_helpers cd_best_helpers ct_best_helpers oc_plan_with kV_plan_with dc_plan_with pm_plan_with cd_plan_with ct_plan_with oc_Played_init kV_Played_init dc_Played_init pm_Played_init cd_Played_init ct_Played_init oc_Played_play kV_Played_play dc_Played_play pm_Played_play cd_Played_play ct_Played_play oc_Desk_init kV_Desk_init dc_Desk_init pm_Desk_init cd_Desk_init ct_Desk_init oc_refuse_if kV_refuse_if dc_refuse_if pm_refuse_if cd_refuse_if ct_refuse_if oc_is_grouping kV_is_grouping dc_is_grouping pm_is_grouping cd_is_grouping ct_is_grouping oc_need_groupings kV_need_groupings dc_need_groupings pm_need_groupings cd_need_groupings ct_need_groupings oc_load kV_load dc_load pm_load cd_load ct_load oc_shown kV_shown dc_shown pm_shown cd_shown ct_shown oc_wish kV_wish dc_wish pm_wish cd_wish ct_wish oc_plain kV_plain dc_plain pm_plain cd_plain ct_plain oc_told_with kV_told_with dc_told_with pm_told_with cd_told_with ct_told_with oc_best kV_best dc_best pm_best cd_best ct_best oc_is_step kV_is_step dc_is_step pm_is_step cd_is_step ct_is_step oc_check kV_check dc_check pm_check cd_check ct_check oc_read_by kV_read_by dc_read_by pm_read_by cd_read_by ct_read_by oc_idle kV_idle dc_idle pm_idle cd_idle ct_idle oc_from_all kV_from_all dc_from_all pm_from_all cd_from_all ct_from_all oc_with_helpers kV_with_helpers dc_with_helpers pm_with_helpers cd_with_helpers ct_with_helpers oc_answered kV_answered dc_answered pm_answered cd_answered ct_answered oc_answers kV_answers dc_answers pm_answers cd_answers ct_answers : Value}
    (h_m_MOST_NAME : PySem.W.nsIn K mainGlobals "MOST_NAME" = some (some (.int (16) t1)))
    (h_m_MOST_NUMBER : PySem.W.nsIn K mainGlobals "MOST_NUMBER" = some (some (.int (1000000000) t2)))
    (h_m_NO_TOKEN : PySem.W.nsIn K mainGlobals "NO_TOKEN" = some (some (.int (2) t3)))
    (h_m_LINE : PySem.W.nsIn K mainGlobals "LINE" = some (some (.int (10) t4)))
    (h_m_REMARK : PySem.W.nsIn K mainGlobals "REMARK" = some (some (.int (35) t5)))
    (h_m_MOST_BYTES : PySem.W.nsIn K mainGlobals "MOST_BYTES" = some (some (.int (4096) t6)))
    (h_m_MOST_COLUMNS : PySem.W.nsIn K mainGlobals "MOST_COLUMNS" = some (some (.int (4) t7)))
    (h_m_MOST_ROWS : PySem.W.nsIn K mainGlobals "MOST_ROWS" = some (some (.int (16) t8)))
    (h_m_MOST_QUESTIONS : PySem.W.nsIn K mainGlobals "MOST_QUESTIONS" = some (some (.int (8) t9)))
    (h_m_MOST_VALUE : PySem.W.nsIn K mainGlobals "MOST_VALUE" = some (some (.int (9) t10)))
    (h_m_MOST_SUM : PySem.W.nsIn K mainGlobals "MOST_SUM" = some (some (.int (1000) t11)))
    (h_m_MOST_TIMES : PySem.W.nsIn K mainGlobals "MOST_TIMES" = some (some (.int (99) t12)))
    (h_m_TOO_LONG : PySem.W.nsIn K mainGlobals "TOO_LONG" = some (some (.int (1) t13)))
    (h_m_NOT_ALLOWED : PySem.W.nsIn K mainGlobals "NOT_ALLOWED" = some (some (.int (3) t14)))
    (h_m_TOO_MANY : PySem.W.nsIn K mainGlobals "TOO_MANY" = some (some (.int (4) t15)))
    (h_m_NAMED : PySem.W.nsIn K mainGlobals "NAMED" = some (some (.int (5) t16)))
    (h_m_TWICE : PySem.W.nsIn K mainGlobals "TWICE" = some (some (.int (6) t17)))
    (h_m_OUT : PySem.W.nsIn K mainGlobals "OUT" = some (some (.int (7) t18)))
    (h_m_NO_COLUMN : PySem.W.nsIn K mainGlobals "NO_COLUMN" = some (some (.int (8) t19)))
    (h_m_TABLE : PySem.W.nsIn K mainGlobals "TABLE" = some (some (.int (-1) t20)))
    (h_m_DROPPED : PySem.W.nsIn K mainGlobals "DROPPED" = some (some (.int (-2) t21)))
    (h_m_MOST_HELPERS : PySem.W.nsIn K mainGlobals "MOST_HELPERS" = some (some (.int (3) t22)))
    (h_m_NO_TABLE : PySem.W.nsIn K mainGlobals "NO_TABLE" = some (some (.int (-1) t23)))
    (h_m_NO_GROUPING : PySem.W.nsIn K mainGlobals "NO_GROUPING" = some (some (.int (-2) t24)))
    (h_m_IS_WISHED : PySem.W.nsIn K mainGlobals "IS_WISHED" = some (some (.int (-3) t25)))
    (h_m_NO_PLAN : PySem.W.nsIn K mainGlobals "NO_PLAN" = some (some (.int (-4) t26)))
    (h_m_LOAD : PySem.W.nsIn K mainGlobals "LOAD" = some (some (.int (0) t27)))
    (h_m_WITH_NUMBER : PySem.W.nsIn K mainGlobals "WITH_NUMBER" = some (some (.int (7) t28)))
    (h_m_NAME : PySem.W.nsIn K mainGlobals "NAME" = some (some (.str "name" t29)))
    (h_m_NUMBER : PySem.W.nsIn K mainGlobals "NUMBER" = some (some (.str "number" t30)))
    (h_m_WORD : PySem.W.nsIn K mainGlobals "WORD" = some (some (.str "word" t31)))
    (h_m_SIGN : PySem.W.nsIn K mainGlobals "SIGN" = some (some (.str "sign" t32)))
    (h_m_END : PySem.W.nsIn K mainGlobals "END" = some (some (.str "end" t33)))
    (h_m_BLANKS : PySem.W.nsIn K mainGlobals "BLANKS" = some (some (.ref BLANKS)))
    (h_t_BLANKS : K.lookup BLANKS = some ⟨.type "tuple", odBLANKS, .seq #[.int 32 t34, .int 9 t35, .int 10 t36] nnBLANKS, slBLANKS⟩)
    (h_m_WORDS : PySem.W.nsIn K mainGlobals "WORDS" = some (some (.ref WORDS)))
    (h_t_WORDS : K.lookup WORDS = some ⟨.type "tuple", odWORDS, .seq #[.str "columns" t37, .str "row" t38, .str "ask" t39, .str "times" t40] nnWORDS, slWORDS⟩)
    (h_m_WEIGHTS : PySem.W.nsIn K mainGlobals "WEIGHTS" = some (some (.ref WEIGHTS)))
    (h_t_WEIGHTS : K.lookup WEIGHTS = some ⟨.type "tuple", odWEIGHTS, .seq #[.int 1 t41, .int 2 t42, .int 4 t43, .int 8 t44, .int 16 t45] nnWEIGHTS, slWEIGHTS⟩)
    (h_m_WITH_ROW : PySem.W.nsIn K mainGlobals "WITH_ROW" = some (some (.ref WITH_ROW)))
    (h_t_WITH_ROW : K.lookup WITH_ROW = some ⟨.type "tuple", odWITH_ROW, .seq #[.int 0 t46, .int 2 t47, .int 5 t48, .int 8 t49] nnWITH_ROW, slWITH_ROW⟩)
    (h_m_SIGNS : PySem.W.nsIn K mainGlobals "SIGNS" = some (some (.ref SIGNS)))
    (h_d_SIGNS : K.lookup SIGNS = some ⟨.type "dict", none, .dict #[⟨44, .int 44 t50, .str "," t51⟩, ⟨58, .int 58 t52, .str ":" t53⟩, ⟨59, .int 59 t54, .str ";" t55⟩, ⟨45, .int 45 t56, .str "-" t57⟩] nnSIGNS, #[]⟩)
    (h_s_SIGNS : (SIGNS == sysModules) = false)
    (h_m_DEEDS : PySem.W.nsIn K mainGlobals "DEEDS" = some (some (.ref DEEDS)))
    (h_d_DEEDS : K.lookup DEEDS = some ⟨.type "dict", none, .dict #[⟨0, .int 0 t58, .ref f_load⟩, ⟨1, .int 1 t59, .ref f_shown⟩, ⟨2, .int 2 t60, .ref f_wish⟩, ⟨3, .int 3 t61, .ref f_plain⟩, ⟨4, .int 4 t62, .ref f_best⟩, ⟨5, .int 5 t63, .ref f_check⟩, ⟨6, .int 6 t64, .ref f_idle⟩, ⟨7, .int 7 t65, .ref f_from_all⟩, ⟨8, .int 8 t66, .ref f_with_helpers⟩] nnDEEDS, #[]⟩)
    (h_s_DEEDS : (DEEDS == sysModules) = false)
    (h_b_tuple : PySem.W.nsIn K mainGlobals "tuple" = some none)
    (h_b_ord : PySem.W.nsIn K mainGlobals "ord" = some none)
    (h_b_len : PySem.W.nsIn K mainGlobals "len" = some none)
    (h_b_range : PySem.W.nsIn K mainGlobals "range" = some none)
    (h_b_enumerate : PySem.W.nsIn K mainGlobals "enumerate" = some none)
    (h_b_list : PySem.W.nsIn K mainGlobals "list" = some none)
    (h_b_str : PySem.W.nsIn K mainGlobals "str" = some none)
    (h_b_sum : PySem.W.nsIn K mainGlobals "sum" = some none)
    (h_b_sorted : PySem.W.nsIn K mainGlobals "sorted" = some none)
    (h_b_all : PySem.W.nsIn K mainGlobals "all" = some none)
    (h_b_set : PySem.W.nsIn K mainGlobals "set" = some none)
    (h_b_max : PySem.W.nsIn K mainGlobals "max" = some none)
    (h_b_any : PySem.W.nsIn K mainGlobals "any" = some none)
    (h_b_int : PySem.W.nsIn K mainGlobals "int" = some none)
    (h_m_Fault : PySem.W.nsIn K mainGlobals "Fault" = some (some (.ref c_Fault)))
    (h_xl_Fault : K.lookup c_Fault = some (excClassObj nm_Fault q_Fault c_Fault N_Fault bs_Fault [.type "Exception", .type "BaseException", .type "object"] true sn_Fault sub_Fault ab_Fault col_Fault dd_Fault k0_Fault k1_Fault k2_Fault k3_Fault k5_Fault "Exception.__new__"))
    (h_xs_Fault : PySem.W.findIn K (.ref c_Fault) "__setattr__" = some (some (.builtin "object.__setattr__")))
    (h_xg_Fault : PySem.W.findIn K (.ref c_Fault) "__getattribute__" = some (some (.builtin "BaseException.__getattribute__")))
    (h_xt_Fault : PySem.W.findIn K (.ref c_Fault) "__getattr__" = some none)
    (h_xe_Fault : PySem.W.subIn K (.ref c_Fault) (.type "BaseException") = some true)
    (h_xy_Fault : PySem.W.typeIn K (.ref c_Fault) = some (.type "type"))
    (h_xh_Fault : PySem.W.hasDictIn K c_Fault = true)
    (h_xk_Fault : PySem.W.keepIn K (.ref c_Fault) = true)
    (h_xi_Fault : PySem.W.isClsIn K c_Fault = true)
    (h_xx_Fault : PySem.W.subIn K (.ref c_Fault) (.ref c_Fault) = some true)
    (h_xn_Fault_code : PySem.W.findIn K (.ref c_Fault) "code" = some none)
    (h_xn_Fault_place : PySem.W.findIn K (.ref c_Fault) "place" = some none)
    (h_xj_Fault : PySem.W.findIn K (.ref c_Fault) "__init__" = some (some (.ref f_Fault_init)))
    (h_xf_Fault : PySem.W.typeIn K (.ref f_Fault_init) = some (.type "function"))
    (h_l_Fault_init : K.lookup f_Fault_init = some ⟨oc_Fault_init, od_Fault_init, .func (PySem.W.fnOf "__init__" "Fault.__init__" (defArgs s_Fault_init) (defBody s_Fault_init) (defScope s_Fault_init) .none kV_Fault_init dc_Fault_init pm_Fault_init an_Fault_init cd_Fault_init ct_Fault_init), sl_Fault_init⟩)
    (h_o_Fault_init : PySem.W.codeIn K cd_Fault_init "Fault.__init__" = true)
    (h_k_Fault_init : PySem.W.keepIn K (.ref f_Fault_init) = true)
    (h_m_Token : PySem.W.nsIn K mainGlobals "Token" = some (some (.ref c_Token)))
    (h_ca_Token : PySem.W.plainGet K c_Token Str.empty = true)
    (h_cb_Token : PySem.W.hasDictIn K c_Token = true)
    (h_cd_Token : PySem.W.plainOver K c_Token = true)
    (h_ce_Token : PySem.W.findIn K (.ref c_Token) "__setattr__" = some (some (.builtin "object.__setattr__")))
    (h_cm_Token : PySem.W.makesIn K c_Token = true)
    (h_ci_Token : PySem.W.findIn K (.ref c_Token) "__init__" = some (some (.ref f_Token_init)))
    (h_cf_Token : PySem.W.isFn K (.ref f_Token_init) = true)
    (h_ck_Token : PySem.W.keepIn K (.ref c_Token) = true)
    (h_n_Token_kind : PySem.W.findIn K (.ref c_Token) "kind" = some none)
    (h_n_Token_value : PySem.W.findIn K (.ref c_Token) "value" = some none)
    (h_n_Token_place : PySem.W.findIn K (.ref c_Token) "place" = some none)
    (h_m_Table : PySem.W.nsIn K mainGlobals "Table" = some (some (.ref c_Table)))
    (h_ca_Table : PySem.W.plainGet K c_Table Str.empty = true)
    (h_cb_Table : PySem.W.hasDictIn K c_Table = true)
    (h_cd_Table : PySem.W.plainOver K c_Table = true)
    (h_ce_Table : PySem.W.findIn K (.ref c_Table) "__setattr__" = some (some (.builtin "object.__setattr__")))
    (h_cm_Table : PySem.W.makesIn K c_Table = true)
    (h_ci_Table : PySem.W.findIn K (.ref c_Table) "__init__" = some (some (.ref f_Table_init)))
    (h_cf_Table : PySem.W.isFn K (.ref f_Table_init) = true)
    (h_ck_Table : PySem.W.keepIn K (.ref c_Table) = true)
    (h_n_Table_columns : PySem.W.findIn K (.ref c_Table) "columns" = some none)
    (h_n_Table_rows : PySem.W.findIn K (.ref c_Table) "rows" = some none)
    (h_n_Table_questions : PySem.W.findIn K (.ref c_Table) "questions" = some none)
    (h_ma_Table_groupings : PySem.W.findIn K (.ref c_Table) "groupings" = some (some (.ref f_Table_groupings)))
    (h_mb_Table_groupings : PySem.W.isFn K (.ref f_Table_groupings) = true)
    (h_m_Parser : PySem.W.nsIn K mainGlobals "Parser" = some (some (.ref c_Parser)))
    (h_ca_Parser : PySem.W.plainGet K c_Parser Str.empty = true)
    (h_cb_Parser : PySem.W.hasDictIn K c_Parser = true)
    (h_cd_Parser : PySem.W.plainOver K c_Parser = true)
    (h_ce_Parser : PySem.W.findIn K (.ref c_Parser) "__setattr__" = some (some (.builtin "object.__setattr__")))
    (h_cm_Parser : PySem.W.makesIn K c_Parser = true)
    (h_ci_Parser : PySem.W.findIn K (.ref c_Parser) "__init__" = some (some (.ref f_Parser_init)))
    (h_cf_Parser : PySem.W.isFn K (.ref f_Parser_init) = true)
    (h_ck_Parser : PySem.W.keepIn K (.ref c_Parser) = true)
    (h_n_Parser_tokens : PySem.W.findIn K (.ref c_Parser) "tokens" = some none)
    (h_n_Parser_at : PySem.W.findIn K (.ref c_Parser) "at" = some none)
    (h_n_Parser_table : PySem.W.findIn K (.ref c_Parser) "table" = some none)
    (h_ma_Parser_here : PySem.W.findIn K (.ref c_Parser) "here" = some (some (.ref f_Parser_here)))
    (h_mb_Parser_here : PySem.W.isFn K (.ref f_Parser_here) = true)
    (h_ma_Parser_fail_if : PySem.W.findIn K (.ref c_Parser) "fail_if" = some (some (.ref f_Parser_fail_if)))
    (h_mb_Parser_fail_if : PySem.W.isFn K (.ref f_Parser_fail_if) = true)
    (h_ma_Parser_comes : PySem.W.findIn K (.ref c_Parser) "comes" = some (some (.ref f_Parser_comes)))
    (h_mb_Parser_comes : PySem.W.isFn K (.ref f_Parser_comes) = true)
    (h_ma_Parser_take : PySem.W.findIn K (.ref c_Parser) "take" = some (some (.ref f_Parser_take)))
    (h_mb_Parser_take : PySem.W.isFn K (.ref f_Parser_take) = true)
    (h_ma_Parser_passes : PySem.W.findIn K (.ref c_Parser) "passes" = some (some (.ref f_Parser_passes)))
    (h_mb_Parser_passes : PySem.W.isFn K (.ref f_Parser_passes) = true)
    (h_ma_Parser_take_number : PySem.W.findIn K (.ref c_Parser) "take_number" = some (some (.ref f_Parser_take_number)))
    (h_mb_Parser_take_number : PySem.W.isFn K (.ref f_Parser_take_number) = true)
    (h_ma_Parser_take_column : PySem.W.findIn K (.ref c_Parser) "take_column" = some (some (.ref f_Parser_take_column)))
    (h_mb_Parser_take_column : PySem.W.isFn K (.ref f_Parser_take_column) = true)
    (h_ma_Parser_take_columns : PySem.W.findIn K (.ref c_Parser) "take_columns" = some (some (.ref f_Parser_take_columns)))
    (h_mb_Parser_take_columns : PySem.W.isFn K (.ref f_Parser_take_columns) = true)
    (h_ma_Parser_take_row : PySem.W.findIn K (.ref c_Parser) "take_row" = some (some (.ref f_Parser_take_row)))
    (h_mb_Parser_take_row : PySem.W.isFn K (.ref f_Parser_take_row) = true)
    (h_ma_Parser_take_group : PySem.W.findIn K (.ref c_Parser) "take_group" = some (some (.ref f_Parser_take_group)))
    (h_mb_Parser_take_group : PySem.W.isFn K (.ref f_Parser_take_group) = true)
    (h_ma_Parser_take_question : PySem.W.findIn K (.ref c_Parser) "take_question" = some (some (.ref f_Parser_take_question)))
    (h_mb_Parser_take_question : PySem.W.isFn K (.ref f_Parser_take_question) = true)
    (h_ma_Parser_take_table : PySem.W.findIn K (.ref c_Parser) "take_table" = some (some (.ref f_Parser_take_table)))
    (h_mb_Parser_take_table : PySem.W.isFn K (.ref f_Parser_take_table) = true)
    (h_m_Sizes : PySem.W.nsIn K mainGlobals "Sizes" = some (some (.ref c_Sizes)))
    (h_ca_Sizes : PySem.W.plainGet K c_Sizes Str.empty = true)
    (h_cb_Sizes : PySem.W.hasDictIn K c_Sizes = true)
    (h_cd_Sizes : PySem.W.plainOver K c_Sizes = true)
    (h_ce_Sizes : PySem.W.findIn K (.ref c_Sizes) "__setattr__" = some (some (.builtin "object.__setattr__")))
    (h_cm_Sizes : PySem.W.makesIn K c_Sizes = true)
    (h_ci_Sizes : PySem.W.findIn K (.ref c_Sizes) "__init__" = some (some (.ref f_Sizes_init)))
    (h_cf_Sizes : PySem.W.isFn K (.ref f_Sizes_init) = true)
    (h_ck_Sizes : PySem.W.keepIn K (.ref c_Sizes) = true)
    (h_n_Sizes_rows : PySem.W.findIn K (.ref c_Sizes) "rows" = some none)
    (h_n_Sizes_lines : PySem.W.findIn K (.ref c_Sizes) "lines" = some none)
    (h_ma_Sizes_smallest : PySem.W.findIn K (.ref c_Sizes) "smallest" = some (some (.ref f_Sizes_smallest)))
    (h_mb_Sizes_smallest : PySem.W.isFn K (.ref f_Sizes_smallest) = true)
    (h_ma_Sizes_parent_in : PySem.W.findIn K (.ref c_Sizes) "parent_in" = some (some (.ref f_Sizes_parent_in)))
    (h_mb_Sizes_parent_in : PySem.W.isFn K (.ref f_Sizes_parent_in) = true)
    (h_ma_Sizes_read_from : PySem.W.findIn K (.ref c_Sizes) "read_from" = some (some (.ref f_Sizes_read_from)))
    (h_mb_Sizes_read_from : PySem.W.isFn K (.ref f_Sizes_read_from) = true)
    (h_ma_Sizes_build_cost : PySem.W.findIn K (.ref c_Sizes) "build_cost" = some (some (.ref f_Sizes_build_cost)))
    (h_mb_Sizes_build_cost : PySem.W.isFn K (.ref f_Sizes_build_cost) = true)
    (h_ma_Sizes_cost_together : PySem.W.findIn K (.ref c_Sizes) "cost_together" = some (some (.ref f_Sizes_cost_together)))
    (h_mb_Sizes_cost_together : PySem.W.isFn K (.ref f_Sizes_cost_together) = true)
    (h_ma_Sizes_total : PySem.W.findIn K (.ref c_Sizes) "total" = some (some (.ref f_Sizes_total)))
    (h_mb_Sizes_total : PySem.W.isFn K (.ref f_Sizes_total) = true)
    (h_m_Played : PySem.W.nsIn K mainGlobals "Played" = some (some (.ref c_Played)))
    (h_ca_Played : PySem.W.plainGet K c_Played Str.empty = true)
    (h_cb_Played : PySem.W.hasDictIn K c_Played = true)
    (h_cd_Played : PySem.W.plainOver K c_Played = true)
    (h_ce_Played : PySem.W.findIn K (.ref c_Played) "__setattr__" = some (some (.builtin "object.__setattr__")))
    (h_cm_Played : PySem.W.makesIn K c_Played = true)
    (h_ci_Played : PySem.W.findIn K (.ref c_Played) "__init__" = some (some (.ref f_Played_init)))
    (h_cf_Played : PySem.W.isFn K (.ref f_Played_init) = true)
    (h_ck_Played : PySem.W.keepIn K (.ref c_Played) = true)
    (h_n_Played_sizes : PySem.W.findIn K (.ref c_Played) "sizes" = some none)
    (h_n_Played_steps : PySem.W.findIn K (.ref c_Played) "steps" = some none)
    (h_n_Played_cost : PySem.W.findIn K (.ref c_Played) "cost" = some none)
    (h_n_Played_most : PySem.W.findIn K (.ref c_Played) "most" = some none)
    (h_n_Played_there : PySem.W.findIn K (.ref c_Played) "there" = some none)
    (h_ma_Played_play : PySem.W.findIn K (.ref c_Played) "play" = some (some (.ref f_Played_play)))
    (h_mb_Played_play : PySem.W.isFn K (.ref f_Played_play) = true)
    (h_m_Refused : PySem.W.nsIn K mainGlobals "Refused" = some (some (.ref c_Refused)))
    (h_xl_Refused : K.lookup c_Refused = some (excClassObj nm_Refused q_Refused c_Refused N_Refused bs_Refused [.type "Exception", .type "BaseException", .type "object"] true sn_Refused sub_Refused ab_Refused col_Refused dd_Refused k0_Refused k1_Refused k2_Refused k3_Refused k5_Refused "Exception.__new__"))
    (h_xs_Refused : PySem.W.findIn K (.ref c_Refused) "__setattr__" = some (some (.builtin "object.__setattr__")))
    (h_xg_Refused : PySem.W.findIn K (.ref c_Refused) "__getattribute__" = some (some (.builtin "BaseException.__getattribute__")))
    (h_xt_Refused : PySem.W.findIn K (.ref c_Refused) "__getattr__" = some none)
    (h_xe_Refused : PySem.W.subIn K (.ref c_Refused) (.type "BaseException") = some true)
    (h_xy_Refused : PySem.W.typeIn K (.ref c_Refused) = some (.type "type"))
    (h_xh_Refused : PySem.W.hasDictIn K c_Refused = true)
    (h_xk_Refused : PySem.W.keepIn K (.ref c_Refused) = true)
    (h_xi_Refused : PySem.W.isClsIn K c_Refused = true)
    (h_xx_Refused : PySem.W.subIn K (.ref c_Refused) (.ref c_Refused) = some true)
    (h_xn_Refused_number : PySem.W.findIn K (.ref c_Refused) "number" = some none)
    (h_xj_Refused : PySem.W.findIn K (.ref c_Refused) "__init__" = some (some (.ref f_Refused_init)))
    (h_xf_Refused : PySem.W.typeIn K (.ref f_Refused_init) = some (.type "function"))
    (h_l_Refused_init : K.lookup f_Refused_init = some ⟨oc_Refused_init, od_Refused_init, .func (PySem.W.fnOf "__init__" "Refused.__init__" (defArgs s_Refused_init) (defBody s_Refused_init) (defScope s_Refused_init) .none kV_Refused_init dc_Refused_init pm_Refused_init an_Refused_init cd_Refused_init ct_Refused_init), sl_Refused_init⟩)
    (h_o_Refused_init : PySem.W.codeIn K cd_Refused_init "Refused.__init__" = true)
    (h_k_Refused_init : PySem.W.keepIn K (.ref f_Refused_init) = true)
    (h_m_Desk : PySem.W.nsIn K mainGlobals "Desk" = some (some (.ref c_Desk)))
    (h_ca_Desk : PySem.W.plainGet K c_Desk Str.empty = true)
    (h_cb_Desk : PySem.W.hasDictIn K c_Desk = true)
    (h_cd_Desk : PySem.W.plainOver K c_Desk = true)
    (h_ce_Desk : PySem.W.findIn K (.ref c_Desk) "__setattr__" = some (some (.builtin "object.__setattr__")))
    (h_cm_Desk : PySem.W.makesIn K c_Desk = true)
    (h_ci_Desk : PySem.W.findIn K (.ref c_Desk) "__init__" = some (some (.ref f_Desk_init)))
    (h_cf_Desk : PySem.W.isFn K (.ref f_Desk_init) = true)
    (h_ck_Desk : PySem.W.keepIn K (.ref c_Desk) = true)
    (h_n_Desk_table : PySem.W.findIn K (.ref c_Desk) "table" = some none)
    (h_n_Desk_sizes : PySem.W.findIn K (.ref c_Desk) "sizes" = some none)
    (h_n_Desk_wished : PySem.W.findIn K (.ref c_Desk) "wished" = some none)
    (h_l_Token_init : K.lookup f_Token_init = some ⟨oc_Token_init, od_Token_init, .func (PySem.W.fnOf "__init__" "Token.__init__" (defArgs s_Token_init) (defBody s_Token_init) (defScope s_Token_init) .none kV_Token_init dc_Token_init pm_Token_init an_Token_init cd_Token_init ct_Token_init), sl_Token_init⟩)
    (h_o_Token_init : PySem.W.codeIn K cd_Token_init "Token.__init__" = true)
    (h_k_Token_init : PySem.W.keepIn K (.ref f_Token_init) = true)
    (h_m_signs_of : PySem.W.nsIn K mainGlobals "signs_of" = some (some (.ref f_signs_of)))
    (h_l_signs_of : K.lookup f_signs_of = some ⟨oc_signs_of, od_signs_of, .func (PySem.W.fnOf "signs_of" "signs_of" (defArgs s_signs_of) (defBody s_signs_of) (defScope s_signs_of) .none kV_signs_of dc_signs_of pm_signs_of an_signs_of cd_signs_of ct_signs_of), sl_signs_of⟩)
    (h_o_signs_of : PySem.W.codeIn K cd_signs_of "signs_of" = true)
    (h_k_signs_of : PySem.W.keepIn K (.ref f_signs_of) = true)
    (h_m_is_digit : PySem.W.nsIn K mainGlobals "is_digit" = some (some (.ref f_is_digit)))
    (h_l_is_digit : K.lookup f_is_digit = some ⟨oc_is_digit, od_is_digit, .func (PySem.W.fnOf "is_digit" "is_digit" (defArgs s_is_digit) (defBody s_is_digit) (defScope s_is_digit) .none kV_is_digit dc_is_digit pm_is_digit an_is_digit cd_is_digit ct_is_digit), sl_is_digit⟩)
    (h_o_is_digit : PySem.W.codeIn K cd_is_digit "is_digit" = true)
    (h_k_is_digit : PySem.W.keepIn K (.ref f_is_digit) = true)
    (h_m_is_letter : PySem.W.nsIn K mainGlobals "is_letter" = some (some (.ref f_is_letter)))
    (h_l_is_letter : K.lookup f_is_letter = some ⟨oc_is_letter, od_is_letter, .func (PySem.W.fnOf "is_letter" "is_letter" (defArgs s_is_letter) (defBody s_is_letter) (defScope s_is_letter) .none kV_is_letter dc_is_letter pm_is_letter an_is_letter cd_is_letter ct_is_letter), sl_is_letter⟩)
    (h_o_is_letter : PySem.W.codeIn K cd_is_letter "is_letter" = true)
    (h_k_is_letter : PySem.W.keepIn K (.ref f_is_letter) = true)
    (h_m_behind_blanks : PySem.W.nsIn K mainGlobals "behind_blanks" = some (some (.ref f_behind_blanks)))
    (h_l_behind_blanks : K.lookup f_behind_blanks = some ⟨oc_behind_blanks, od_behind_blanks, .func (PySem.W.fnOf "behind_blanks" "behind_blanks" (defArgs s_behind_blanks) (defBody s_behind_blanks) (defScope s_behind_blanks) .none kV_behind_blanks dc_behind_blanks pm_behind_blanks an_behind_blanks cd_behind_blanks ct_behind_blanks), sl_behind_blanks⟩)
    (h_o_behind_blanks : PySem.W.codeIn K cd_behind_blanks "behind_blanks" = true)
    (h_k_behind_blanks : PySem.W.keepIn K (.ref f_behind_blanks) = true)
    (h_m_behind_name : PySem.W.nsIn K mainGlobals "behind_name" = some (some (.ref f_behind_name)))
    (h_l_behind_name : K.lookup f_behind_name = some ⟨oc_behind_name, od_behind_name, .func (PySem.W.fnOf "behind_name" "behind_name" (defArgs s_behind_name) (defBody s_behind_name) (defScope s_behind_name) .none kV_behind_name dc_behind_name pm_behind_name an_behind_name cd_behind_name ct_behind_name), sl_behind_name⟩)
    (h_o_behind_name : PySem.W.codeIn K cd_behind_name "behind_name" = true)
    (h_k_behind_name : PySem.W.keepIn K (.ref f_behind_name) = true)
    (h_m_behind_digits : PySem.W.nsIn K mainGlobals "behind_digits" = some (some (.ref f_behind_digits)))
    (h_l_behind_digits : K.lookup f_behind_digits = some ⟨oc_behind_digits, od_behind_digits, .func (PySem.W.fnOf "behind_digits" "behind_digits" (defArgs s_behind_digits) (defBody s_behind_digits) (defScope s_behind_digits) .none kV_behind_digits dc_behind_digits pm_behind_digits an_behind_digits cd_behind_digits ct_behind_digits), sl_behind_digits⟩)
    (h_o_behind_digits : PySem.W.codeIn K cd_behind_digits "behind_digits" = true)
    (h_k_behind_digits : PySem.W.keepIn K (.ref f_behind_digits) = true)
    (h_m_name_token : PySem.W.nsIn K mainGlobals "name_token" = some (some (.ref f_name_token)))
    (h_l_name_token : K.lookup f_name_token = some ⟨oc_name_token, od_name_token, .func (PySem.W.fnOf "name_token" "name_token" (defArgs s_name_token) (defBody s_name_token) (defScope s_name_token) .none kV_name_token dc_name_token pm_name_token an_name_token cd_name_token ct_name_token), sl_name_token⟩)
    (h_o_name_token : PySem.W.codeIn K cd_name_token "name_token" = true)
    (h_k_name_token : PySem.W.keepIn K (.ref f_name_token) = true)
    (h_m_number_token : PySem.W.nsIn K mainGlobals "number_token" = some (some (.ref f_number_token)))
    (h_l_number_token : K.lookup f_number_token = some ⟨oc_number_token, od_number_token, .func (PySem.W.fnOf "number_token" "number_token" (defArgs s_number_token) (defBody s_number_token) (defScope s_number_token) .none kV_number_token dc_number_token pm_number_token an_number_token cd_number_token ct_number_token), sl_number_token⟩)
    (h_o_number_token : PySem.W.codeIn K cd_number_token "number_token" = true)
    (h_k_number_token : PySem.W.keepIn K (.ref f_number_token) = true)
    (h_m_tokens_of : PySem.W.nsIn K mainGlobals "tokens_of" = some (some (.ref f_tokens_of)))
    (h_l_tokens_of : K.lookup f_tokens_of = some ⟨oc_tokens_of, od_tokens_of, .func (PySem.W.fnOf "tokens_of" "tokens_of" (defArgs s_tokens_of) (defBody s_tokens_of) (defScope s_tokens_of) .none kV_tokens_of dc_tokens_of pm_tokens_of an_tokens_of cd_tokens_of ct_tokens_of), sl_tokens_of⟩)
    (h_o_tokens_of : PySem.W.codeIn K cd_tokens_of "tokens_of" = true)
    (h_k_tokens_of : PySem.W.keepIn K (.ref f_tokens_of) = true)
    (h_l_Table_init : K.lookup f_Table_init = some ⟨oc_Table_init, od_Table_init, .func (PySem.W.fnOf "__init__" "Table.__init__" (defArgs s_Table_init) (defBody s_Table_init) (defScope s_Table_init) .none kV_Table_init dc_Table_init pm_Table_init an_Table_init cd_Table_init ct_Table_init), sl_Table_init⟩)
    (h_o_Table_init : PySem.W.codeIn K cd_Table_init "Table.__init__" = true)
    (h_k_Table_init : PySem.W.keepIn K (.ref f_Table_init) = true)
    (h_l_Table_groupings : K.lookup f_Table_groupings = some ⟨oc_Table_groupings, od_Table_groupings, .func (PySem.W.fnOf "groupings" "Table.groupings" (defArgs s_Table_groupings) (defBody s_Table_groupings) (defScope s_Table_groupings) .none kV_Table_groupings dc_Table_groupings pm_Table_groupings an_Table_groupings cd_Table_groupings ct_Table_groupings), sl_Table_groupings⟩)
    (h_o_Table_groupings : PySem.W.codeIn K cd_Table_groupings "Table.groupings" = true)
    (h_k_Table_groupings : PySem.W.keepIn K (.ref f_Table_groupings) = true)
    (h_l_Parser_init : K.lookup f_Parser_init = some ⟨oc_Parser_init, od_Parser_init, .func (PySem.W.fnOf "__init__" "Parser.__init__" (defArgs s_Parser_init) (defBody s_Parser_init) (defScope s_Parser_init) .none kV_Parser_init dc_Parser_init pm_Parser_init an_Parser_init cd_Parser_init ct_Parser_init), sl_Parser_init⟩)
    (h_o_Parser_init : PySem.W.codeIn K cd_Parser_init "Parser.__init__" = true)
    (h_k_Parser_init : PySem.W.keepIn K (.ref f_Parser_init) = true)
    (h_l_Parser_here : K.lookup f_Parser_here = some ⟨oc_Parser_here, od_Parser_here, .func (PySem.W.fnOf "here" "Parser.here" (defArgs s_Parser_here) (defBody s_Parser_here) (defScope s_Parser_here) .none kV_Parser_here dc_Parser_here pm_Parser_here an_Parser_here cd_Parser_here ct_Parser_here), sl_Parser_here⟩)
    (h_o_Parser_here : PySem.W.codeIn K cd_Parser_here "Parser.here" = true)
    (h_k_Parser_here : PySem.W.keepIn K (.ref f_Parser_here) = true)
    (h_l_Parser_fail_if : K.lookup f_Parser_fail_if = some ⟨oc_Parser_fail_if, od_Parser_fail_if, .func (PySem.W.fnOf "fail_if" "Parser.fail_if" (defArgs s_Parser_fail_if) (defBody s_Parser_fail_if) (defScope s_Parser_fail_if) .none kV_Parser_fail_if dc_Parser_fail_if pm_Parser_fail_if an_Parser_fail_if cd_Parser_fail_if ct_Parser_fail_if), sl_Parser_fail_if⟩)
    (h_o_Parser_fail_if : PySem.W.codeIn K cd_Parser_fail_if "Parser.fail_if" = true)
    (h_k_Parser_fail_if : PySem.W.keepIn K (.ref f_Parser_fail_if) = true)
    (h_l_Parser_comes : K.lookup f_Parser_comes = some ⟨oc_Parser_comes, od_Parser_comes, .func (PySem.W.fnOf "comes" "Parser.comes" (defArgs s_Parser_comes) (defBody s_Parser_comes) (defScope s_Parser_comes) .none kV_Parser_comes dc_Parser_comes pm_Parser_comes an_Parser_comes cd_Parser_comes ct_Parser_comes), sl_Parser_comes⟩)
    (h_o_Parser_comes : PySem.W.codeIn K cd_Parser_comes "Parser.comes" = true)
    (h_k_Parser_comes : PySem.W.keepIn K (.ref f_Parser_comes) = true)
    (h_l_Parser_take : K.lookup f_Parser_take = some ⟨oc_Parser_take, od_Parser_take, .func (PySem.W.fnOf "take" "Parser.take" (defArgs s_Parser_take) (defBody s_Parser_take) (defScope s_Parser_take) .none kV_Parser_take dc_Parser_take pm_Parser_take an_Parser_take cd_Parser_take ct_Parser_take), sl_Parser_take⟩)
    (h_o_Parser_take : PySem.W.codeIn K cd_Parser_take "Parser.take" = true)
    (h_k_Parser_take : PySem.W.keepIn K (.ref f_Parser_take) = true)
    (h_l_Parser_passes : K.lookup f_Parser_passes = some ⟨oc_Parser_passes, od_Parser_passes, .func (PySem.W.fnOf "passes" "Parser.passes" (defArgs s_Parser_passes) (defBody s_Parser_passes) (defScope s_Parser_passes) .none kV_Parser_passes dc_Parser_passes pm_Parser_passes an_Parser_passes cd_Parser_passes ct_Parser_passes), sl_Parser_passes⟩)
    (h_o_Parser_passes : PySem.W.codeIn K cd_Parser_passes "Parser.passes" = true)
    (h_k_Parser_passes : PySem.W.keepIn K (.ref f_Parser_passes) = true)
    (h_l_Parser_take_number : K.lookup f_Parser_take_number = some ⟨oc_Parser_take_number, od_Parser_take_number, .func (PySem.W.fnOf "take_number" "Parser.take_number" (defArgs s_Parser_take_number) (defBody s_Parser_take_number) (defScope s_Parser_take_number) .none kV_Parser_take_number dc_Parser_take_number pm_Parser_take_number an_Parser_take_number cd_Parser_take_number ct_Parser_take_number), sl_Parser_take_number⟩)
    (h_o_Parser_take_number : PySem.W.codeIn K cd_Parser_take_number "Parser.take_number" = true)
    (h_k_Parser_take_number : PySem.W.keepIn K (.ref f_Parser_take_number) = true)
    (h_l_Parser_take_column : K.lookup f_Parser_take_column = some ⟨oc_Parser_take_column, od_Parser_take_column, .func (PySem.W.fnOf "take_column" "Parser.take_column" (defArgs s_Parser_take_column) (defBody s_Parser_take_column) (defScope s_Parser_take_column) .none kV_Parser_take_column dc_Parser_take_column pm_Parser_take_column an_Parser_take_column cd_Parser_take_column ct_Parser_take_column), sl_Parser_take_column⟩)
    (h_o_Parser_take_column : PySem.W.codeIn K cd_Parser_take_column "Parser.take_column" = true)
    (h_k_Parser_take_column : PySem.W.keepIn K (.ref f_Parser_take_column) = true)
    (h_l_Parser_take_columns : K.lookup f_Parser_take_columns = some ⟨oc_Parser_take_columns, od_Parser_take_columns, .func (PySem.W.fnOf "take_columns" "Parser.take_columns" (defArgs s_Parser_take_columns) (defBody s_Parser_take_columns) (defScope s_Parser_take_columns) .none kV_Parser_take_columns dc_Parser_take_columns pm_Parser_take_columns an_Parser_take_columns cd_Parser_take_columns ct_Parser_take_columns), sl_Parser_take_columns⟩)
    (h_o_Parser_take_columns : PySem.W.codeIn K cd_Parser_take_columns "Parser.take_columns" = true)
    (h_k_Parser_take_columns : PySem.W.keepIn K (.ref f_Parser_take_columns) = true)
    (h_l_Parser_take_row : K.lookup f_Parser_take_row = some ⟨oc_Parser_take_row, od_Parser_take_row, .func (PySem.W.fnOf "take_row" "Parser.take_row" (defArgs s_Parser_take_row) (defBody s_Parser_take_row) (defScope s_Parser_take_row) .none kV_Parser_take_row dc_Parser_take_row pm_Parser_take_row an_Parser_take_row cd_Parser_take_row ct_Parser_take_row), sl_Parser_take_row⟩)
    (h_o_Parser_take_row : PySem.W.codeIn K cd_Parser_take_row "Parser.take_row" = true)
    (h_k_Parser_take_row : PySem.W.keepIn K (.ref f_Parser_take_row) = true)
    (h_l_Parser_take_group : K.lookup f_Parser_take_group = some ⟨oc_Parser_take_group, od_Parser_take_group, .func (PySem.W.fnOf "take_group" "Parser.take_group" (defArgs s_Parser_take_group) (defBody s_Parser_take_group) (defScope s_Parser_take_group) .none kV_Parser_take_group dc_Parser_take_group pm_Parser_take_group an_Parser_take_group cd_Parser_take_group ct_Parser_take_group), sl_Parser_take_group⟩)
    (h_o_Parser_take_group : PySem.W.codeIn K cd_Parser_take_group "Parser.take_group" = true)
    (h_k_Parser_take_group : PySem.W.keepIn K (.ref f_Parser_take_group) = true)
    (h_l_Parser_take_question : K.lookup f_Parser_take_question = some ⟨oc_Parser_take_question, od_Parser_take_question, .func (PySem.W.fnOf "take_question" "Parser.take_question" (defArgs s_Parser_take_question) (defBody s_Parser_take_question) (defScope s_Parser_take_question) .none kV_Parser_take_question dc_Parser_take_question pm_Parser_take_question an_Parser_take_question cd_Parser_take_question ct_Parser_take_question), sl_Parser_take_question⟩)
    (h_o_Parser_take_question : PySem.W.codeIn K cd_Parser_take_question "Parser.take_question" = true)
    (h_k_Parser_take_question : PySem.W.keepIn K (.ref f_Parser_take_question) = true)
    (h_l_Parser_take_table : K.lookup f_Parser_take_table = some ⟨oc_Parser_take_table, od_Parser_take_table, .func (PySem.W.fnOf "take_table" "Parser.take_table" (defArgs s_Parser_take_table) (defBody s_Parser_take_table) (defScope s_Parser_take_table) .none kV_Parser_take_table dc_Parser_take_table pm_Parser_take_table an_Parser_take_table cd_Parser_take_table ct_Parser_take_table), sl_Parser_take_table⟩)
    (h_o_Parser_take_table : PySem.W.codeIn K cd_Parser_take_table "Parser.take_table" = true)
    (h_k_Parser_take_table : PySem.W.keepIn K (.ref f_Parser_take_table) = true)
    (h_m_read_table : PySem.W.nsIn K mainGlobals "read_table" = some (some (.ref f_read_table)))
    (h_l_read_table : K.lookup f_read_table = some ⟨oc_read_table, od_read_table, .func (PySem.W.fnOf "read_table" "read_table" (defArgs s_read_table) (defBody s_read_table) (defScope s_read_table) .none kV_read_table dc_read_table pm_read_table an_read_table cd_read_table ct_read_table), sl_read_table⟩)
    (h_o_read_table : PySem.W.codeIn K cd_read_table "read_table" = true)
    (h_k_read_table : PySem.W.keepIn K (.ref f_read_table) = true)
    (h_m_with_commas : PySem.W.nsIn K mainGlobals "with_commas" = some (some (.ref f_with_commas)))
    (h_l_with_commas : K.lookup f_with_commas = some ⟨oc_with_commas, od_with_commas, .func (PySem.W.fnOf "with_commas" "with_commas" (defArgs s_with_commas) (defBody s_with_commas) (defScope s_with_commas) .none kV_with_commas dc_with_commas pm_with_commas an_with_commas cd_with_commas ct_with_commas), sl_with_commas⟩)
    (h_o_with_commas : PySem.W.codeIn K cd_with_commas "with_commas" = true)
    (h_k_with_commas : PySem.W.keepIn K (.ref f_with_commas) = true)
    (h_m_line_of : PySem.W.nsIn K mainGlobals "line_of" = some (some (.ref f_line_of)))
    (h_l_line_of : K.lookup f_line_of = some ⟨oc_line_of, od_line_of, .func (PySem.W.fnOf "line_of" "line_of" (defArgs s_line_of) (defBody s_line_of) (defScope s_line_of) .none kV_line_of dc_line_of pm_line_of an_line_of cd_line_of ct_line_of), sl_line_of⟩)
    (h_o_line_of : PySem.W.codeIn K cd_line_of "line_of" = true)
    (h_k_line_of : PySem.W.keepIn K (.ref f_line_of) = true)
    (h_m_columns_in : PySem.W.nsIn K mainGlobals "columns_in" = some (some (.ref f_columns_in)))
    (h_l_columns_in : K.lookup f_columns_in = some ⟨oc_columns_in, od_columns_in, .func (PySem.W.fnOf "columns_in" "columns_in" (defArgs s_columns_in) (defBody s_columns_in) (defScope s_columns_in) .none kV_columns_in dc_columns_in pm_columns_in an_columns_in cd_columns_in ct_columns_in), sl_columns_in⟩)
    (h_o_columns_in : PySem.W.codeIn K cd_columns_in "columns_in" = true)
    (h_k_columns_in : PySem.W.keepIn K (.ref f_columns_in) = true)
    (h_m_one_form : PySem.W.nsIn K mainGlobals "one_form" = some (some (.ref f_one_form)))
    (h_l_one_form : K.lookup f_one_form = some ⟨oc_one_form, od_one_form, .func (PySem.W.fnOf "one_form" "one_form" (defArgs s_one_form) (defBody s_one_form) (defScope s_one_form) .none kV_one_form dc_one_form pm_one_form an_one_form cd_one_form ct_one_form), sl_one_form⟩)
    (h_o_one_form : PySem.W.codeIn K cd_one_form "one_form" = true)
    (h_k_one_form : PySem.W.keepIn K (.ref f_one_form) = true)
    (h_m_size_of : PySem.W.nsIn K mainGlobals "size_of" = some (some (.ref f_size_of)))
    (h_l_size_of : K.lookup f_size_of = some ⟨oc_size_of, od_size_of, .func (PySem.W.fnOf "size_of" "size_of" (defArgs s_size_of) (defBody s_size_of) (defScope s_size_of) .none kV_size_of dc_size_of pm_size_of an_size_of cd_size_of ct_size_of), sl_size_of⟩)
    (h_o_size_of : PySem.W.codeIn K cd_size_of "size_of" = true)
    (h_k_size_of : PySem.W.keepIn K (.ref f_size_of) = true)
    (h_m_has_all : PySem.W.nsIn K mainGlobals "has_all" = some (some (.ref f_has_all)))
    (h_l_has_all : K.lookup f_has_all = some ⟨oc_has_all, od_has_all, .func (PySem.W.fnOf "has_all" "has_all" (defArgs s_has_all) (defBody s_has_all) (defScope s_has_all) .none kV_has_all dc_has_all pm_has_all an_has_all cd_has_all ct_has_all), sl_has_all⟩)
    (h_o_has_all : PySem.W.codeIn K cd_has_all "has_all" = true)
    (h_k_has_all : PySem.W.keepIn K (.ref f_has_all) = true)
    (h_m_is_above : PySem.W.nsIn K mainGlobals "is_above" = some (some (.ref f_is_above)))
    (h_l_is_above : K.lookup f_is_above = some ⟨oc_is_above, od_is_above, .func (PySem.W.fnOf "is_above" "is_above" (defArgs s_is_above) (defBody s_is_above) (defScope s_is_above) .none kV_is_above dc_is_above pm_is_above an_is_above cd_is_above ct_is_above), sl_is_above⟩)
    (h_o_is_above : PySem.W.codeIn K cd_is_above "is_above" = true)
    (h_k_is_above : PySem.W.keepIn K (.ref f_is_above) = true)
    (h_m_column_count : PySem.W.nsIn K mainGlobals "column_count" = some (some (.ref f_column_count)))
    (h_l_column_count : K.lookup f_column_count = some ⟨oc_column_count, od_column_count, .func (PySem.W.fnOf "column_count" "column_count" (defArgs s_column_count) (defBody s_column_count) (defScope s_column_count) .none kV_column_count dc_column_count pm_column_count an_column_count cd_column_count ct_column_count), sl_column_count⟩)
    (h_o_column_count : PySem.W.codeIn K cd_column_count "column_count" = true)
    (h_k_column_count : PySem.W.keepIn K (.ref f_column_count) = true)
    (h_m_helper_number : PySem.W.nsIn K mainGlobals "helper_number" = some (some (.ref f_helper_number)))
    (h_l_helper_number : K.lookup f_helper_number = some ⟨oc_helper_number, od_helper_number, .func (PySem.W.fnOf "helper_number" "helper_number" (defArgs s_helper_number) (defBody s_helper_number) (defScope s_helper_number) .none kV_helper_number dc_helper_number pm_helper_number an_helper_number cd_helper_number ct_helper_number), sl_helper_number⟩)
    (h_o_helper_number : PySem.W.codeIn K cd_helper_number "helper_number" = true)
    (h_k_helper_number : PySem.W.keepIn K (.ref f_helper_number) = true)
    (h_l_Sizes_init : K.lookup f_Sizes_init = some ⟨oc_Sizes_init, od_Sizes_init, .func (PySem.W.fnOf "__init__" "Sizes.__init__" (defArgs s_Sizes_init) (defBody s_Sizes_init) (defScope s_Sizes_init) .none kV_Sizes_init dc_Sizes_init pm_Sizes_init an_Sizes_init cd_Sizes_init ct_Sizes_init), sl_Sizes_init⟩)
    (h_o_Sizes_init : PySem.W.codeIn K cd_Sizes_init "Sizes.__init__" = true)
    (h_k_Sizes_init : PySem.W.keepIn K (.ref f_Sizes_init) = true)
    (h_l_Sizes_smallest : K.lookup f_Sizes_smallest = some ⟨oc_Sizes_smallest, od_Sizes_smallest, .func (PySem.W.fnOf "smallest" "Sizes.smallest" (defArgs s_Sizes_smallest) (defBody s_Sizes_smallest) (defScope s_Sizes_smallest) .none kV_Sizes_smallest dc_Sizes_smallest pm_Sizes_smallest an_Sizes_smallest cd_Sizes_smallest ct_Sizes_smallest), sl_Sizes_smallest⟩)
    (h_o_Sizes_smallest : PySem.W.codeIn K cd_Sizes_smallest "Sizes.smallest" = true)
    (h_k_Sizes_smallest : PySem.W.keepIn K (.ref f_Sizes_smallest) = true)
    (h_l_Sizes_parent_in : K.lookup f_Sizes_parent_in = some ⟨oc_Sizes_parent_in, od_Sizes_parent_in, .func (PySem.W.fnOf "parent_in" "Sizes.parent_in" (defArgs s_Sizes_parent_in) (defBody s_Sizes_parent_in) (defScope s_Sizes_parent_in) .none kV_Sizes_parent_in dc_Sizes_parent_in pm_Sizes_parent_in an_Sizes_parent_in cd_Sizes_parent_in ct_Sizes_parent_in), sl_Sizes_parent_in⟩)
    (h_o_Sizes_parent_in : PySem.W.codeIn K cd_Sizes_parent_in "Sizes.parent_in" = true)
    (h_k_Sizes_parent_in : PySem.W.keepIn K (.ref f_Sizes_parent_in) = true)
    (h_l_Sizes_read_from : K.lookup f_Sizes_read_from = some ⟨oc_Sizes_read_from, od_Sizes_read_from, .func (PySem.W.fnOf "read_from" "Sizes.read_from" (defArgs s_Sizes_read_from) (defBody s_Sizes_read_from) (defScope s_Sizes_read_from) .none kV_Sizes_read_from dc_Sizes_read_from pm_Sizes_read_from an_Sizes_read_from cd_Sizes_read_from ct_Sizes_read_from), sl_Sizes_read_from⟩)
    (h_o_Sizes_read_from : PySem.W.codeIn K cd_Sizes_read_from "Sizes.read_from" = true)
    (h_k_Sizes_read_from : PySem.W.keepIn K (.ref f_Sizes_read_from) = true)
    (h_l_Sizes_build_cost : K.lookup f_Sizes_build_cost = some ⟨oc_Sizes_build_cost, od_Sizes_build_cost, .func (PySem.W.fnOf "build_cost" "Sizes.build_cost" (defArgs s_Sizes_build_cost) (defBody s_Sizes_build_cost) (defScope s_Sizes_build_cost) .none kV_Sizes_build_cost dc_Sizes_build_cost pm_Sizes_build_cost an_Sizes_build_cost cd_Sizes_build_cost ct_Sizes_build_cost), sl_Sizes_build_cost⟩)
    (h_o_Sizes_build_cost : PySem.W.codeIn K cd_Sizes_build_cost "Sizes.build_cost" = true)
    (h_k_Sizes_build_cost : PySem.W.keepIn K (.ref f_Sizes_build_cost) = true)
    (h_l_Sizes_cost_together : K.lookup f_Sizes_cost_together = some ⟨oc_Sizes_cost_together, od_Sizes_cost_together, .func (PySem.W.fnOf "cost_together" "Sizes.cost_together" (defArgs s_Sizes_cost_together) (defBody s_Sizes_cost_together) (defScope s_Sizes_cost_together) .none kV_Sizes_cost_together dc_Sizes_cost_together pm_Sizes_cost_together an_Sizes_cost_together cd_Sizes_cost_together ct_Sizes_cost_together), sl_Sizes_cost_together⟩)
    (h_o_Sizes_cost_together : PySem.W.codeIn K cd_Sizes_cost_together "Sizes.cost_together" = true)
    (h_k_Sizes_cost_together : PySem.W.keepIn K (.ref f_Sizes_cost_together) = true)
    (h_l_Sizes_total : K.lookup f_Sizes_total = some ⟨oc_Sizes_total, od_Sizes_total, .func (PySem.W.fnOf "total" "Sizes.total" (defArgs s_Sizes_total) (defBody s_Sizes_total) (defScope s_Sizes_total) .none kV_Sizes_total dc_Sizes_total pm_Sizes_total an_Sizes_total cd_Sizes_total ct_Sizes_total), sl_Sizes_total⟩)
    (h_o_Sizes_total : PySem.W.codeIn K cd_Sizes_total "Sizes.total" = true)
    (h_k_Sizes_total : PySem.W.keepIn K (.ref f_Sizes_total) = true)
    (h_m_sets_of : PySem.W.nsIn K mainGlobals "sets_of" = some (some (.ref f_sets_of)))
    (h_l_sets_of : K.lookup f_sets_of = some ⟨oc_sets_of, od_sets_of, .func (PySem.W.fnOf "sets_of" "sets_of" (defArgs s_sets_of) (defBody s_sets_of) (defScope s_sets_of) .none kV_sets_of dc_sets_of pm_sets_of an_sets_of cd_sets_of ct_sets_of), sl_sets_of⟩)
    (h_o_sets_of : PySem.W.codeIn K cd_sets_of "sets_of" = true)
    (h_k_sets_of : PySem.W.keepIn K (.ref f_sets_of) = true)
    (h_m_best_helpers : PySem.W.nsIn K mainGlobals "best_helpers" = some (some (.ref f_best_helpers)))
    (h_l_best_helpers : K.lookup f_best_helpers = some ⟨oc_best_helpers, od_best_helpers, .func (PySem.W.fnOf "best_helpers" "best_helpers" (defArgs s_best_helpers) (defBody s_best_helpers) (defScope s_best_helpers) .none kV_best_helpers dc_best_helpers pm_best_helpers an_best_helpers cd_best_helpers ct_best_helpers), sl_best_helpers⟩)
    (h_o_best_helpers : PySem.W.codeIn K cd_best_helpers "best_helpers" = true)
    (h_k_best_helpers : PySem.W.keepIn K (.ref f_best_helpers) = true)
    (h_m_plan_with : PySem.W.nsIn K mainGlobals "plan_with" = some (some (.ref f_plan_with)))
    (h_l_plan_with : K.lookup f_plan_with = some ⟨oc_plan_with, od_plan_with, .func (PySem.W.fnOf "plan_with" "plan_with" (defArgs s_plan_with) (defBody s_plan_with) (defScope s_plan_with) .none kV_plan_with dc_plan_with pm_plan_with an_plan_with cd_plan_with ct_plan_with), sl_plan_with⟩)
    (h_o_plan_with : PySem.W.codeIn K cd_plan_with "plan_with" = true)
    (h_k_plan_with : PySem.W.keepIn K (.ref f_plan_with) = true)
    (h_l_Played_init : K.lookup f_Played_init = some ⟨oc_Played_init, od_Played_init, .func (PySem.W.fnOf "__init__" "Played.__init__" (defArgs s_Played_init) (defBody s_Played_init) (defScope s_Played_init) .none kV_Played_init dc_Played_init pm_Played_init an_Played_init cd_Played_init ct_Played_init), sl_Played_init⟩)
    (h_o_Played_init : PySem.W.codeIn K cd_Played_init "Played.__init__" = true)
    (h_k_Played_init : PySem.W.keepIn K (.ref f_Played_init) = true)
    (h_l_Played_play : K.lookup f_Played_play = some ⟨oc_Played_play, od_Played_play, .func (PySem.W.fnOf "play" "Played.play" (defArgs s_Played_play) (defBody s_Played_play) (defScope s_Played_play) .none kV_Played_play dc_Played_play pm_Played_play an_Played_play cd_Played_play ct_Played_play), sl_Played_play⟩)
    (h_o_Played_play : PySem.W.codeIn K cd_Played_play "Played.play" = true)
    (h_k_Played_play : PySem.W.keepIn K (.ref f_Played_play) = true)
    (h_l_Desk_init : K.lookup f_Desk_init = some ⟨oc_Desk_init, od_Desk_init, .func (PySem.W.fnOf "__init__" "Desk.__init__" (defArgs s_Desk_init) (defBody s_Desk_init) (defScope s_Desk_init) .none kV_Desk_init dc_Desk_init pm_Desk_init an_Desk_init cd_Desk_init ct_Desk_init), sl_Desk_init⟩)
    (h_o_Desk_init : PySem.W.codeIn K cd_Desk_init "Desk.__init__" = true)
    (h_k_Desk_init : PySem.W.keepIn K (.ref f_Desk_init) = true)
    (h_m_refuse_if : PySem.W.nsIn K mainGlobals "refuse_if" = some (some (.ref f_refuse_if)))
    (h_l_refuse_if : K.lookup f_refuse_if = some ⟨oc_refuse_if, od_refuse_if, .func (PySem.W.fnOf "refuse_if" "refuse_if" (defArgs s_refuse_if) (defBody s_refuse_if) (defScope s_refuse_if) .none kV_refuse_if dc_refuse_if pm_refuse_if an_refuse_if cd_refuse_if ct_refuse_if), sl_refuse_if⟩)
    (h_o_refuse_if : PySem.W.codeIn K cd_refuse_if "refuse_if" = true)
    (h_k_refuse_if : PySem.W.keepIn K (.ref f_refuse_if) = true)
    (h_m_is_grouping : PySem.W.nsIn K mainGlobals "is_grouping" = some (some (.ref f_is_grouping)))
    (h_l_is_grouping : K.lookup f_is_grouping = some ⟨oc_is_grouping, od_is_grouping, .func (PySem.W.fnOf "is_grouping" "is_grouping" (defArgs s_is_grouping) (defBody s_is_grouping) (defScope s_is_grouping) .none kV_is_grouping dc_is_grouping pm_is_grouping an_is_grouping cd_is_grouping ct_is_grouping), sl_is_grouping⟩)
    (h_o_is_grouping : PySem.W.codeIn K cd_is_grouping "is_grouping" = true)
    (h_k_is_grouping : PySem.W.keepIn K (.ref f_is_grouping) = true)
    (h_m_need_groupings : PySem.W.nsIn K mainGlobals "need_groupings" = some (some (.ref f_need_groupings)))
    (h_l_need_groupings : K.lookup f_need_groupings = some ⟨oc_need_groupings, od_need_groupings, .func (PySem.W.fnOf "need_groupings" "need_groupings" (defArgs s_need_groupings) (defBody s_need_groupings) (defScope s_need_groupings) .none kV_need_groupings dc_need_groupings pm_need_groupings an_need_groupings cd_need_groupings ct_need_groupings), sl_need_groupings⟩)
    (h_o_need_groupings : PySem.W.codeIn K cd_need_groupings "need_groupings" = true)
    (h_k_need_groupings : PySem.W.keepIn K (.ref f_need_groupings) = true)
    (h_m_load : PySem.W.nsIn K mainGlobals "load" = some (some (.ref f_load)))
    (h_l_load : K.lookup f_load = some ⟨oc_load, od_load, .func (PySem.W.fnOf "load" "load" (defArgs s_load) (defBody s_load) (defScope s_load) .none kV_load dc_load pm_load an_load cd_load ct_load), sl_load⟩)
    (h_o_load : PySem.W.codeIn K cd_load "load" = true)
    (h_k_load : PySem.W.keepIn K (.ref f_load) = true)
    (h_m_shown : PySem.W.nsIn K mainGlobals "shown" = some (some (.ref f_shown)))
    (h_l_shown : K.lookup f_shown = some ⟨oc_shown, od_shown, .func (PySem.W.fnOf "shown" "shown" (defArgs s_shown) (defBody s_shown) (defScope s_shown) .none kV_shown dc_shown pm_shown an_shown cd_shown ct_shown), sl_shown⟩)
    (h_o_shown : PySem.W.codeIn K cd_shown "shown" = true)
    (h_k_shown : PySem.W.keepIn K (.ref f_shown) = true)
    (h_m_wish : PySem.W.nsIn K mainGlobals "wish" = some (some (.ref f_wish)))
    (h_l_wish : K.lookup f_wish = some ⟨oc_wish, od_wish, .func (PySem.W.fnOf "wish" "wish" (defArgs s_wish) (defBody s_wish) (defScope s_wish) .none kV_wish dc_wish pm_wish an_wish cd_wish ct_wish), sl_wish⟩)
    (h_o_wish : PySem.W.codeIn K cd_wish "wish" = true)
    (h_k_wish : PySem.W.keepIn K (.ref f_wish) = true)
    (h_m_plain : PySem.W.nsIn K mainGlobals "plain" = some (some (.ref f_plain)))
    (h_l_plain : K.lookup f_plain = some ⟨oc_plain, od_plain, .func (PySem.W.fnOf "plain" "plain" (defArgs s_plain) (defBody s_plain) (defScope s_plain) .none kV_plain dc_plain pm_plain an_plain cd_plain ct_plain), sl_plain⟩)
    (h_o_plain : PySem.W.codeIn K cd_plain "plain" = true)
    (h_k_plain : PySem.W.keepIn K (.ref f_plain) = true)
    (h_m_told_with : PySem.W.nsIn K mainGlobals "told_with" = some (some (.ref f_told_with)))
    (h_l_told_with : K.lookup f_told_with = some ⟨oc_told_with, od_told_with, .func (PySem.W.fnOf "told_with" "told_with" (defArgs s_told_with) (defBody s_told_with) (defScope s_told_with) .none kV_told_with dc_told_with pm_told_with an_told_with cd_told_with ct_told_with), sl_told_with⟩)
    (h_o_told_with : PySem.W.codeIn K cd_told_with "told_with" = true)
    (h_k_told_with : PySem.W.keepIn K (.ref f_told_with) = true)
    (h_m_best : PySem.W.nsIn K mainGlobals "best" = some (some (.ref f_best)))
    (h_l_best : K.lookup f_best = some ⟨oc_best, od_best, .func (PySem.W.fnOf "best" "best" (defArgs s_best) (defBody s_best) (defScope s_best) .none kV_best dc_best pm_best an_best cd_best ct_best), sl_best⟩)
    (h_o_best : PySem.W.codeIn K cd_best "best" = true)
    (h_k_best : PySem.W.keepIn K (.ref f_best) = true)
    (h_m_is_step : PySem.W.nsIn K mainGlobals "is_step" = some (some (.ref f_is_step)))
    (h_l_is_step : K.lookup f_is_step = some ⟨oc_is_step, od_is_step, .func (PySem.W.fnOf "is_step" "is_step" (defArgs s_is_step) (defBody s_is_step) (defScope s_is_step) .none kV_is_step dc_is_step pm_is_step an_is_step cd_is_step ct_is_step), sl_is_step⟩)
    (h_o_is_step : PySem.W.codeIn K cd_is_step "is_step" = true)
    (h_k_is_step : PySem.W.keepIn K (.ref f_is_step) = true)
    (h_m_check : PySem.W.nsIn K mainGlobals "check" = some (some (.ref f_check)))
    (h_l_check : K.lookup f_check = some ⟨oc_check, od_check, .func (PySem.W.fnOf "check" "check" (defArgs s_check) (defBody s_check) (defScope s_check) .none kV_check dc_check pm_check an_check cd_check ct_check), sl_check⟩)
    (h_o_check : PySem.W.codeIn K cd_check "check" = true)
    (h_k_check : PySem.W.keepIn K (.ref f_check) = true)
    (h_m_read_by : PySem.W.nsIn K mainGlobals "read_by" = some (some (.ref f_read_by)))
    (h_l_read_by : K.lookup f_read_by = some ⟨oc_read_by, od_read_by, .func (PySem.W.fnOf "read_by" "read_by" (defArgs s_read_by) (defBody s_read_by) (defScope s_read_by) .none kV_read_by dc_read_by pm_read_by an_read_by cd_read_by ct_read_by), sl_read_by⟩)
    (h_o_read_by : PySem.W.codeIn K cd_read_by "read_by" = true)
    (h_k_read_by : PySem.W.keepIn K (.ref f_read_by) = true)
    (h_m_idle : PySem.W.nsIn K mainGlobals "idle" = some (some (.ref f_idle)))
    (h_l_idle : K.lookup f_idle = some ⟨oc_idle, od_idle, .func (PySem.W.fnOf "idle" "idle" (defArgs s_idle) (defBody s_idle) (defScope s_idle) .none kV_idle dc_idle pm_idle an_idle cd_idle ct_idle), sl_idle⟩)
    (h_o_idle : PySem.W.codeIn K cd_idle "idle" = true)
    (h_k_idle : PySem.W.keepIn K (.ref f_idle) = true)
    (h_m_from_all : PySem.W.nsIn K mainGlobals "from_all" = some (some (.ref f_from_all)))
    (h_l_from_all : K.lookup f_from_all = some ⟨oc_from_all, od_from_all, .func (PySem.W.fnOf "from_all" "from_all" (defArgs s_from_all) (defBody s_from_all) (defScope s_from_all) .none kV_from_all dc_from_all pm_from_all an_from_all cd_from_all ct_from_all), sl_from_all⟩)
    (h_o_from_all : PySem.W.codeIn K cd_from_all "from_all" = true)
    (h_k_from_all : PySem.W.keepIn K (.ref f_from_all) = true)
    (h_m_with_helpers : PySem.W.nsIn K mainGlobals "with_helpers" = some (some (.ref f_with_helpers)))
    (h_l_with_helpers : K.lookup f_with_helpers = some ⟨oc_with_helpers, od_with_helpers, .func (PySem.W.fnOf "with_helpers" "with_helpers" (defArgs s_with_helpers) (defBody s_with_helpers) (defScope s_with_helpers) .none kV_with_helpers dc_with_helpers pm_with_helpers an_with_helpers cd_with_helpers ct_with_helpers), sl_with_helpers⟩)
    (h_o_with_helpers : PySem.W.codeIn K cd_with_helpers "with_helpers" = true)
    (h_k_with_helpers : PySem.W.keepIn K (.ref f_with_helpers) = true)
    (h_m_answered : PySem.W.nsIn K mainGlobals "answered" = some (some (.ref f_answered)))
    (h_l_answered : K.lookup f_answered = some ⟨oc_answered, od_answered, .func (PySem.W.fnOf "answered" "answered" (defArgs s_answered) (defBody s_answered) (defScope s_answered) .none kV_answered dc_answered pm_answered an_answered cd_answered ct_answered), sl_answered⟩)
    (h_o_answered : PySem.W.codeIn K cd_answered "answered" = true)
    (h_k_answered : PySem.W.keepIn K (.ref f_answered) = true)
    (h_m_answers : PySem.W.nsIn K mainGlobals "answers" = some (some (.ref f_answers)))
    (h_l_answers : K.lookup f_answers = some ⟨oc_answers, od_answers, .func (PySem.W.fnOf "answers" "answers" (defArgs s_answers) (defBody s_answers) (defScope s_answers) .none kV_answers dc_answers pm_answers an_answers cd_answers ct_answers), sl_answers⟩)
    (h_o_answers : PySem.W.codeIn K cd_answers "answers" = true)
    (h_k_answers : PySem.W.keepIn K (.ref f_answers) = true) :
    Txt K mg { BLANKS := BLANKS, WORDS := WORDS, WEIGHTS := WEIGHTS, WITH_ROW := WITH_ROW, SIGNS := SIGNS, DEEDS := DEEDS, c_Fault := c_Fault, f_Fault_init := f_Fault_init, c_Token := c_Token, c_Table := c_Table, c_Parser := c_Parser, c_Sizes := c_Sizes, c_Played := c_Played, c_Refused := c_Refused, f_Refused_init := f_Refused_init, c_Desk := c_Desk, f_Token_init := f_Token_init, f_signs_of := f_signs_of, f_is_digit := f_is_digit, f_is_letter := f_is_letter, f_behind_blanks := f_behind_blanks, f_behind_name := f_behind_name, f_behind_digits := f_behind_digits, f_name_token := f_name_token, f_number_token := f_number_token, f_tokens_of := f_tokens_of, f_Table_init := f_Table_init, f_Table_groupings := f_Table_groupings, f_Parser_init := f_Parser_init, f_Parser_here := f_Parser_here, f_Parser_fail_if := f_Parser_fail_if, f_Parser_comes := f_Parser_comes, f_Parser_take := f_Parser_take, f_Parser_passes := f_Parser_passes, f_Parser_take_number := f_Parser_take_number, f_Parser_take_column := f_Parser_take_column, f_Parser_take_columns := f_Parser_take_columns, f_Parser_take_row := f_Parser_take_row, f_Parser_take_group := f_Parser_take_group, f_Parser_take_question := f_Parser_take_question, f_Parser_take_table := f_Parser_take_table, f_read_table := f_read_table, f_with_commas := f_with_commas, f_line_of := f_line_of, f_columns_in := f_columns_in, f_one_form := f_one_form, f_size_of := f_size_of, f_has_all := f_has_all, f_is_above := f_is_above, f_column_count := f_column_count, f_helper_number := f_helper_number, f_Sizes_init := f_Sizes_init, f_Sizes_smallest := f_Sizes_smallest, f_Sizes_parent_in := f_Sizes_parent_in, f_Sizes_read_from := f_Sizes_read_from, f_Sizes_build_cost := f_Sizes_build_cost, f_Sizes_cost_together := f_Sizes_cost_together, f_Sizes_total := f_Sizes_total, f_sets_of := f_sets_of, f_best_helpers := f_best_helpers, f_plan_with := f_plan_with, f_Played_init := f_Played_init, f_Played_play := f_Played_play, f_Desk_init := f_Desk_init, f_refuse_if := f_refuse_if, f_is_grouping := f_is_grouping, f_need_groupings := f_need_groupings, f_load := f_load, f_shown := f_shown, f_wish := f_wish, f_plain := f_plain, f_told_with := f_told_with, f_best := f_best, f_is_step := f_is_step, f_check := f_check, f_read_by := f_read_by, f_idle := f_idle, f_from_all := f_from_all, f_with_helpers := f_with_helpers, f_answered := f_answered, f_answers := f_answers } where
  m_MOST_NAME := ⟨_, PySem.W.mg_of X G h_m_MOST_NAME⟩
  m_MOST_NUMBER := ⟨_, PySem.W.mg_of X G h_m_MOST_NUMBER⟩
  m_NO_TOKEN := ⟨_, PySem.W.mg_of X G h_m_NO_TOKEN⟩
  m_LINE := ⟨_, PySem.W.mg_of X G h_m_LINE⟩
  m_REMARK := ⟨_, PySem.W.mg_of X G h_m_REMARK⟩
  m_MOST_BYTES := ⟨_, PySem.W.mg_of X G h_m_MOST_BYTES⟩
  m_MOST_COLUMNS := ⟨_, PySem.W.mg_of X G h_m_MOST_COLUMNS⟩
  m_MOST_ROWS := ⟨_, PySem.W.mg_of X G h_m_MOST_ROWS⟩
  m_MOST_QUESTIONS := ⟨_, PySem.W.mg_of X G h_m_MOST_QUESTIONS⟩
  m_MOST_VALUE := ⟨_, PySem.W.mg_of X G h_m_MOST_VALUE⟩
  m_MOST_SUM := ⟨_, PySem.W.mg_of X G h_m_MOST_SUM⟩
  m_MOST_TIMES := ⟨_, PySem.W.mg_of X G h_m_MOST_TIMES⟩
  m_TOO_LONG := ⟨_, PySem.W.mg_of X G h_m_TOO_LONG⟩
  m_NOT_ALLOWED := ⟨_, PySem.W.mg_of X G h_m_NOT_ALLOWED⟩
  m_TOO_MANY := ⟨_, PySem.W.mg_of X G h_m_TOO_MANY⟩
  m_NAMED := ⟨_, PySem.W.mg_of X G h_m_NAMED⟩
  m_TWICE := ⟨_, PySem.W.mg_of X G h_m_TWICE⟩
  m_OUT := ⟨_, PySem.W.mg_of X G h_m_OUT⟩
  m_NO_COLUMN := ⟨_, PySem.W.mg_of X G h_m_NO_COLUMN⟩
  m_TABLE := ⟨_, PySem.W.mg_of X G h_m_TABLE⟩
  m_DROPPED := ⟨_, PySem.W.mg_of X G h_m_DROPPED⟩
  m_MOST_HELPERS := ⟨_, PySem.W.mg_of X G h_m_MOST_HELPERS⟩
  m_NO_TABLE := ⟨_, PySem.W.mg_of X G h_m_NO_TABLE⟩
  m_NO_GROUPING := ⟨_, PySem.W.mg_of X G h_m_NO_GROUPING⟩
  m_IS_WISHED := ⟨_, PySem.W.mg_of X G h_m_IS_WISHED⟩
  m_NO_PLAN := ⟨_, PySem.W.mg_of X G h_m_NO_PLAN⟩
  m_LOAD := ⟨_, PySem.W.mg_of X G h_m_LOAD⟩
  m_WITH_NUMBER := ⟨_, PySem.W.mg_of X G h_m_WITH_NUMBER⟩
  m_NAME := ⟨_, PySem.W.mg_of X G h_m_NAME⟩
  m_NUMBER := ⟨_, PySem.W.mg_of X G h_m_NUMBER⟩
  m_WORD := ⟨_, PySem.W.mg_of X G h_m_WORD⟩
  m_SIGN := ⟨_, PySem.W.mg_of X G h_m_SIGN⟩
  m_END := ⟨_, PySem.W.mg_of X G h_m_END⟩
  m_BLANKS := PySem.W.mg_of X G h_m_BLANKS
  t_BLANKS := fun H => .inr ⟨_, _, _, h_t_BLANKS, rfl, rfl, (by show 3 ≤ sizeLine; decide), (.cons ⟨_, rfl⟩ (.cons ⟨_, rfl⟩ (.cons ⟨_, rfl⟩ .nil)))⟩
  m_WORDS := PySem.W.mg_of X G h_m_WORDS
  t_WORDS := fun H => .inr ⟨_, _, _, h_t_WORDS, rfl, rfl, (by show 4 ≤ sizeLine; decide), (.cons ⟨_, rfl⟩ (.cons ⟨_, rfl⟩ (.cons ⟨_, rfl⟩ (.cons ⟨_, rfl⟩ .nil))))⟩
  m_WEIGHTS := PySem.W.mg_of X G h_m_WEIGHTS
  t_WEIGHTS := fun H => .inr ⟨_, _, _, h_t_WEIGHTS, rfl, rfl, (by show 5 ≤ sizeLine; decide), (.cons ⟨_, rfl⟩ (.cons ⟨_, rfl⟩ (.cons ⟨_, rfl⟩ (.cons ⟨_, rfl⟩ (.cons ⟨_, rfl⟩ .nil)))))⟩
  m_WITH_ROW := PySem.W.mg_of X G h_m_WITH_ROW
  t_WITH_ROW := fun H => .inr ⟨_, _, _, h_t_WITH_ROW, rfl, rfl, (by show 4 ≤ sizeLine; decide), (.cons ⟨_, rfl⟩ (.cons ⟨_, rfl⟩ (.cons ⟨_, rfl⟩ (.cons ⟨_, rfl⟩ .nil))))⟩
  m_SIGNS := PySem.W.mg_of X G h_m_SIGNS
  d_SIGNS := ⟨⟨_, _, h_d_SIGNS, (.cons ⟨⟨_, rfl⟩, (show (44 : Int) = hashInt 44 by decide +kernel), ⟨_, rfl⟩⟩ (.cons ⟨⟨_, rfl⟩, (show (58 : Int) = hashInt 58 by decide +kernel), ⟨_, rfl⟩⟩ (.cons ⟨⟨_, rfl⟩, (show (59 : Int) = hashInt 59 by decide +kernel), ⟨_, rfl⟩⟩ (.cons ⟨⟨_, rfl⟩, (show (45 : Int) = hashInt 45 by decide +kernel), ⟨_, rfl⟩⟩ .nil))))⟩, h_s_SIGNS⟩
  m_DEEDS := PySem.W.mg_of X G h_m_DEEDS
  d_DEEDS := ⟨⟨_, _, h_d_DEEDS, (.cons ⟨⟨_, rfl⟩, (show (0 : Int) = hashInt 0 by decide +kernel), rfl⟩ (.cons ⟨⟨_, rfl⟩, (show (1 : Int) = hashInt 1 by decide +kernel), rfl⟩ (.cons ⟨⟨_, rfl⟩, (show (2 : Int) = hashInt 2 by decide +kernel), rfl⟩ (.cons ⟨⟨_, rfl⟩, (show (3 : Int) = hashInt 3 by decide +kernel), rfl⟩ (.cons ⟨⟨_, rfl⟩, (show (4 : Int) = hashInt 4 by decide +kernel), rfl⟩ (.cons ⟨⟨_, rfl⟩, (show (5 : Int) = hashInt 5 by decide +kernel), rfl⟩ (.cons ⟨⟨_, rfl⟩, (show (6 : Int) = hashInt 6 by decide +kernel), rfl⟩ (.cons ⟨⟨_, rfl⟩, (show (7 : Int) = hashInt 7 by decide +kernel), rfl⟩ (.cons ⟨⟨_, rfl⟩, (show (8 : Int) = hashInt 8 by decide +kernel), rfl⟩ .nil)))))))))⟩, h_s_DEEDS⟩
  b_tuple := PySem.W.mg_none_of X G h_b_tuple
  b_ord := PySem.W.mg_none_of X G h_b_ord
  b_len := PySem.W.mg_none_of X G h_b_len
  b_range := PySem.W.mg_none_of X G h_b_range
  b_enumerate := PySem.W.mg_none_of X G h_b_enumerate
  b_list := PySem.W.mg_none_of X G h_b_list
  b_str := PySem.W.mg_none_of X G h_b_str
  b_sum := PySem.W.mg_none_of X G h_b_sum
  b_sorted := PySem.W.mg_none_of X G h_b_sorted
  b_all := PySem.W.mg_none_of X G h_b_all
  b_set := PySem.W.mg_none_of X G h_b_set
  b_max := PySem.W.mg_none_of X G h_b_max
  b_any := PySem.W.mg_none_of X G h_b_any
  b_int := PySem.W.mg_none_of X G h_b_int
  x_Fault := ⟨⟨⟨_, _, _, _, _, _, _, _, _, _, _, _, _, _, h_xl_Fault⟩, h_xs_Fault, h_xg_Fault, h_xt_Fault, h_xe_Fault, h_xy_Fault, h_xh_Fault, h_xk_Fault, exm_self h_xe_Fault h_xi_Fault h_xy_Fault h_xx_Fault⟩, PySem.W.mg_of X G h_m_Fault, h_xn_Fault_code, h_xn_Fault_place, h_xj_Fault, h_xf_Fault, ⟨_, fun_mk (st := s_Fault_init) h_l_Fault_init h_o_Fault_init h_k_Fault_init⟩⟩
  m_Token := PySem.W.mg_of X G h_m_Token
  cl_Token := ⟨h_ca_Token, h_cb_Token, h_cd_Token, h_ce_Token⟩
  mk_Token := ⟨h_cm_Token, h_ci_Token, h_cf_Token, h_ck_Token⟩
  n_Token_kind := h_n_Token_kind
  n_Token_value := h_n_Token_value
  n_Token_place := h_n_Token_place
  m_Table := PySem.W.mg_of X G h_m_Table
  cl_Table := ⟨h_ca_Table, h_cb_Table, h_cd_Table, h_ce_Table⟩
  mk_Table := ⟨h_cm_Table, h_ci_Table, h_cf_Table, h_ck_Table⟩
  n_Table_columns := h_n_Table_columns
  n_Table_rows := h_n_Table_rows
  n_Table_questions := h_n_Table_questions
  me_Table_groupings := ⟨h_ma_Table_groupings, h_mb_Table_groupings, h_k_Table_groupings⟩
  m_Parser := PySem.W.mg_of X G h_m_Parser
  cl_Parser := ⟨h_ca_Parser, h_cb_Parser, h_cd_Parser, h_ce_Parser⟩
  mk_Parser := ⟨h_cm_Parser, h_ci_Parser, h_cf_Parser, h_ck_Parser⟩
  n_Parser_tokens := h_n_Parser_tokens
  n_Parser_at := h_n_Parser_at
  n_Parser_table := h_n_Parser_table
  me_Parser_here := ⟨h_ma_Parser_here, h_mb_Parser_here, h_k_Parser_here⟩
  me_Parser_fail_if := ⟨h_ma_Parser_fail_if, h_mb_Parser_fail_if, h_k_Parser_fail_if⟩
  me_Parser_comes := ⟨h_ma_Parser_comes, h_mb_Parser_comes, h_k_Parser_comes⟩
  me_Parser_take := ⟨h_ma_Parser_take, h_mb_Parser_take, h_k_Parser_take⟩
  me_Parser_passes := ⟨h_ma_Parser_passes, h_mb_Parser_passes, h_k_Parser_passes⟩
  me_Parser_take_number := ⟨h_ma_Parser_take_number, h_mb_Parser_take_number, h_k_Parser_take_number⟩
  me_Parser_take_column := ⟨h_ma_Parser_take_column, h_mb_Parser_take_column, h_k_Parser_take_column⟩
  me_Parser_take_columns := ⟨h_ma_Parser_take_columns, h_mb_Parser_take_columns, h_k_Parser_take_columns⟩
  me_Parser_take_row := ⟨h_ma_Parser_take_row, h_mb_Parser_take_row, h_k_Parser_take_row⟩
  me_Parser_take_group := ⟨h_ma_Parser_take_group, h_mb_Parser_take_group, h_k_Parser_take_group⟩
  me_Parser_take_question := ⟨h_ma_Parser_take_question, h_mb_Parser_take_question, h_k_Parser_take_question⟩
  me_Parser_take_table := ⟨h_ma_Parser_take_table, h_mb_Parser_take_table, h_k_Parser_take_table⟩
  m_Sizes := PySem.W.mg_of X G h_m_Sizes
  cl_Sizes := ⟨h_ca_Sizes, h_cb_Sizes, h_cd_Sizes, h_ce_Sizes⟩
  mk_Sizes := ⟨h_cm_Sizes, h_ci_Sizes, h_cf_Sizes, h_ck_Sizes⟩
  n_Sizes_rows := h_n_Sizes_rows
  n_Sizes_lines := h_n_Sizes_lines
  me_Sizes_smallest := ⟨h_ma_Sizes_smallest, h_mb_Sizes_smallest, h_k_Sizes_smallest⟩
  me_Sizes_parent_in := ⟨h_ma_Sizes_parent_in, h_mb_Sizes_parent_in, h_k_Sizes_parent_in⟩
  me_Sizes_read_from := ⟨h_ma_Sizes_read_from, h_mb_Sizes_read_from, h_k_Sizes_read_from⟩
  me_Sizes_build_cost := ⟨h_ma_Sizes_build_cost, h_mb_Sizes_build_cost, h_k_Sizes_build_cost⟩
  me_Sizes_cost_together := ⟨h_ma_Sizes_cost_together, h_mb_Sizes_cost_together, h_k_Sizes_cost_together⟩
  me_Sizes_total := ⟨h_ma_Sizes_total, h_mb_Sizes_total, h_k_Sizes_total⟩
  m_Played := PySem.W.mg_of X G h_m_Played
  cl_Played := ⟨h_ca_Played, h_cb_Played, h_cd_Played, h_ce_Played⟩
  mk_Played := ⟨h_cm_Played, h_ci_Played, h_cf_Played, h_ck_Played⟩
  n_Played_sizes := h_n_Played_sizes
  n_Played_steps := h_n_Played_steps
  n_Played_cost := h_n_Played_cost
  n_Played_most := h_n_Played_most
  n_Played_there := h_n_Played_there
  me_Played_play := ⟨h_ma_Played_play, h_mb_Played_play, h_k_Played_play⟩
  x_Refused := ⟨⟨⟨_, _, _, _, _, _, _, _, _, _, _, _, _, _, h_xl_Refused⟩, h_xs_Refused, h_xg_Refused, h_xt_Refused, h_xe_Refused, h_xy_Refused, h_xh_Refused, h_xk_Refused, exm_self h_xe_Refused h_xi_Refused h_xy_Refused h_xx_Refused⟩, PySem.W.mg_of X G h_m_Refused, h_xn_Refused_number, h_xj_Refused, h_xf_Refused, ⟨_, fun_mk (st := s_Refused_init) h_l_Refused_init h_o_Refused_init h_k_Refused_init⟩⟩
  m_Desk := PySem.W.mg_of X G h_m_Desk
  cl_Desk := ⟨h_ca_Desk, h_cb_Desk, h_cd_Desk, h_ce_Desk⟩
  mk_Desk := ⟨h_cm_Desk, h_ci_Desk, h_cf_Desk, h_ck_Desk⟩
  n_Desk_table := h_n_Desk_table
  n_Desk_sizes := h_n_Desk_sizes
  n_Desk_wished := h_n_Desk_wished
  F_Token_init := ⟨_, fun_mk (st := s_Token_init) h_l_Token_init h_o_Token_init h_k_Token_init⟩
  k_Token_init := h_k_Token_init
  m_signs_of := PySem.W.mg_of X G h_m_signs_of
  F_signs_of := ⟨_, fun_mk (st := s_signs_of) h_l_signs_of h_o_signs_of h_k_signs_of⟩
  k_signs_of := h_k_signs_of
  m_is_digit := PySem.W.mg_of X G h_m_is_digit
  F_is_digit := ⟨_, fun_mk (st := s_is_digit) h_l_is_digit h_o_is_digit h_k_is_digit⟩
  k_is_digit := h_k_is_digit
  m_is_letter := PySem.W.mg_of X G h_m_is_letter
  F_is_letter := ⟨_, fun_mk (st := s_is_letter) h_l_is_letter h_o_is_letter h_k_is_letter⟩
  k_is_letter := h_k_is_letter
  m_behind_blanks := PySem.W.mg_of X G h_m_behind_blanks
  F_behind_blanks := ⟨_, fun_mk (st := s_behind_blanks) h_l_behind_blanks h_o_behind_blanks h_k_behind_blanks⟩
  k_behind_blanks := h_k_behind_blanks
  m_behind_name := PySem.W.mg_of X G h_m_behind_name
  F_behind_name := ⟨_, fun_mk (st := s_behind_name) h_l_behind_name h_o_behind_name h_k_behind_name⟩
  k_behind_name := h_k_behind_name
  m_behind_digits := PySem.W.mg_of X G h_m_behind_digits
  F_behind_digits := ⟨_, fun_mk (st := s_behind_digits) h_l_behind_digits h_o_behind_digits h_k_behind_digits⟩
  k_behind_digits := h_k_behind_digits
  m_name_token := PySem.W.mg_of X G h_m_name_token
  F_name_token := ⟨_, fun_mk (st := s_name_token) h_l_name_token h_o_name_token h_k_name_token⟩
  k_name_token := h_k_name_token
  m_number_token := PySem.W.mg_of X G h_m_number_token
  F_number_token := ⟨_, fun_mk (st := s_number_token) h_l_number_token h_o_number_token h_k_number_token⟩
  k_number_token := h_k_number_token
  m_tokens_of := PySem.W.mg_of X G h_m_tokens_of
  F_tokens_of := ⟨_, fun_mk (st := s_tokens_of) h_l_tokens_of h_o_tokens_of h_k_tokens_of⟩
  k_tokens_of := h_k_tokens_of
  F_Table_init := ⟨_, fun_mk (st := s_Table_init) h_l_Table_init h_o_Table_init h_k_Table_init⟩
  k_Table_init := h_k_Table_init
  F_Table_groupings := ⟨_, fun_mk (st := s_Table_groupings) h_l_Table_groupings h_o_Table_groupings h_k_Table_groupings⟩
  k_Table_groupings := h_k_Table_groupings
  F_Parser_init := ⟨_, fun_mk (st := s_Parser_init) h_l_Parser_init h_o_Parser_init h_k_Parser_init⟩
  k_Parser_init := h_k_Parser_init
  F_Parser_here := ⟨_, fun_mk (st := s_Parser_here) h_l_Parser_here h_o_Parser_here h_k_Parser_here⟩
  k_Parser_here := h_k_Parser_here
  F_Parser_fail_if := ⟨_, fun_mk (st := s_Parser_fail_if) h_l_Parser_fail_if h_o_Parser_fail_if h_k_Parser_fail_if⟩
  k_Parser_fail_if := h_k_Parser_fail_if
  F_Parser_comes := ⟨_, fun_mk (st := s_Parser_comes) h_l_Parser_comes h_o_Parser_comes h_k_Parser_comes⟩
  k_Parser_comes := h_k_Parser_comes
  F_Parser_take := ⟨_, fun_mk (st := s_Parser_take) h_l_Parser_take h_o_Parser_take h_k_Parser_take⟩
  k_Parser_take := h_k_Parser_take
  F_Parser_passes := ⟨_, fun_mk (st := s_Parser_passes) h_l_Parser_passes h_o_Parser_passes h_k_Parser_passes⟩
  k_Parser_passes := h_k_Parser_passes
  F_Parser_take_number := ⟨_, fun_mk (st := s_Parser_take_number) h_l_Parser_take_number h_o_Parser_take_number h_k_Parser_take_number⟩
  k_Parser_take_number := h_k_Parser_take_number
  F_Parser_take_column := ⟨_, fun_mk (st := s_Parser_take_column) h_l_Parser_take_column h_o_Parser_take_column h_k_Parser_take_column⟩
  k_Parser_take_column := h_k_Parser_take_column
  F_Parser_take_columns := ⟨_, fun_mk (st := s_Parser_take_columns) h_l_Parser_take_columns h_o_Parser_take_columns h_k_Parser_take_columns⟩
  k_Parser_take_columns := h_k_Parser_take_columns
  F_Parser_take_row := ⟨_, fun_mk (st := s_Parser_take_row) h_l_Parser_take_row h_o_Parser_take_row h_k_Parser_take_row⟩
  k_Parser_take_row := h_k_Parser_take_row
  F_Parser_take_group := ⟨_, fun_mk (st := s_Parser_take_group) h_l_Parser_take_group h_o_Parser_take_group h_k_Parser_take_group⟩
  k_Parser_take_group := h_k_Parser_take_group
  F_Parser_take_question := ⟨_, fun_mk (st := s_Parser_take_question) h_l_Parser_take_question h_o_Parser_take_question h_k_Parser_take_question⟩
  k_Parser_take_question := h_k_Parser_take_question
  F_Parser_take_table := ⟨_, fun_mk (st := s_Parser_take_table) h_l_Parser_take_table h_o_Parser_take_table h_k_Parser_take_table⟩
  k_Parser_take_table := h_k_Parser_take_table
  m_read_table := PySem.W.mg_of X G h_m_read_table
  F_read_table := ⟨_, fun_mk (st := s_read_table) h_l_read_table h_o_read_table h_k_read_table⟩
  k_read_table := h_k_read_table
  m_with_commas := PySem.W.mg_of X G h_m_with_commas
  F_with_commas := ⟨_, fun_mk (st := s_with_commas) h_l_with_commas h_o_with_commas h_k_with_commas⟩
  k_with_commas := h_k_with_commas
  m_line_of := PySem.W.mg_of X G h_m_line_of
  F_line_of := ⟨_, fun_mk (st := s_line_of) h_l_line_of h_o_line_of h_k_line_of⟩
  k_line_of := h_k_line_of
  m_columns_in := PySem.W.mg_of X G h_m_columns_in
  F_columns_in := ⟨_, fun_mk (st := s_columns_in) h_l_columns_in h_o_columns_in h_k_columns_in⟩
  k_columns_in := h_k_columns_in
  m_one_form := PySem.W.mg_of X G h_m_one_form
  F_one_form := ⟨_, fun_mk (st := s_one_form) h_l_one_form h_o_one_form h_k_one_form⟩
  k_one_form := h_k_one_form
  m_size_of := PySem.W.mg_of X G h_m_size_of
  F_size_of := ⟨_, fun_mk (st := s_size_of) h_l_size_of h_o_size_of h_k_size_of⟩
  k_size_of := h_k_size_of
  m_has_all := PySem.W.mg_of X G h_m_has_all
  F_has_all := ⟨_, fun_mk (st := s_has_all) h_l_has_all h_o_has_all h_k_has_all⟩
  k_has_all := h_k_has_all
  m_is_above := PySem.W.mg_of X G h_m_is_above
  F_is_above := ⟨_, fun_mk (st := s_is_above) h_l_is_above h_o_is_above h_k_is_above⟩
  k_is_above := h_k_is_above
  m_column_count := PySem.W.mg_of X G h_m_column_count
  F_column_count := ⟨_, fun_mk (st := s_column_count) h_l_column_count h_o_column_count h_k_column_count⟩
  k_column_count := h_k_column_count
  m_helper_number := PySem.W.mg_of X G h_m_helper_number
  F_helper_number := ⟨_, fun_mk (st := s_helper_number) h_l_helper_number h_o_helper_number h_k_helper_number⟩
  k_helper_number := h_k_helper_number
  F_Sizes_init := ⟨_, fun_mk (st := s_Sizes_init) h_l_Sizes_init h_o_Sizes_init h_k_Sizes_init⟩
  k_Sizes_init := h_k_Sizes_init
  F_Sizes_smallest := ⟨_, fun_mk (st := s_Sizes_smallest) h_l_Sizes_smallest h_o_Sizes_smallest h_k_Sizes_smallest⟩
  k_Sizes_smallest := h_k_Sizes_smallest
  F_Sizes_parent_in := ⟨_, fun_mk (st := s_Sizes_parent_in) h_l_Sizes_parent_in h_o_Sizes_parent_in h_k_Sizes_parent_in⟩
  k_Sizes_parent_in := h_k_Sizes_parent_in
  F_Sizes_read_from := ⟨_, fun_mk (st := s_Sizes_read_from) h_l_Sizes_read_from h_o_Sizes_read_from h_k_Sizes_read_from⟩
  k_Sizes_read_from := h_k_Sizes_read_from
  F_Sizes_build_cost := ⟨_, fun_mk (st := s_Sizes_build_cost) h_l_Sizes_build_cost h_o_Sizes_build_cost h_k_Sizes_build_cost⟩
  k_Sizes_build_cost := h_k_Sizes_build_cost
  F_Sizes_cost_together := ⟨_, fun_mk (st := s_Sizes_cost_together) h_l_Sizes_cost_together h_o_Sizes_cost_together h_k_Sizes_cost_together⟩
  k_Sizes_cost_together := h_k_Sizes_cost_together
  F_Sizes_total := ⟨_, fun_mk (st := s_Sizes_total) h_l_Sizes_total h_o_Sizes_total h_k_Sizes_total⟩
  k_Sizes_total := h_k_Sizes_total
  m_sets_of := PySem.W.mg_of X G h_m_sets_of
  F_sets_of := ⟨_, fun_mk (st := s_sets_of) h_l_sets_of h_o_sets_of h_k_sets_of⟩
  k_sets_of := h_k_sets_of
  m_best_helpers := PySem.W.mg_of X G h_m_best_helpers
  F_best_helpers := ⟨_, fun_mk (st := s_best_helpers) h_l_best_helpers h_o_best_helpers h_k_best_helpers⟩
  k_best_helpers := h_k_best_helpers
  m_plan_with := PySem.W.mg_of X G h_m_plan_with
  F_plan_with := ⟨_, fun_mk (st := s_plan_with) h_l_plan_with h_o_plan_with h_k_plan_with⟩
  k_plan_with := h_k_plan_with
  F_Played_init := ⟨_, fun_mk (st := s_Played_init) h_l_Played_init h_o_Played_init h_k_Played_init⟩
  k_Played_init := h_k_Played_init
  F_Played_play := ⟨_, fun_mk (st := s_Played_play) h_l_Played_play h_o_Played_play h_k_Played_play⟩
  k_Played_play := h_k_Played_play
  F_Desk_init := ⟨_, fun_mk (st := s_Desk_init) h_l_Desk_init h_o_Desk_init h_k_Desk_init⟩
  k_Desk_init := h_k_Desk_init
  m_refuse_if := PySem.W.mg_of X G h_m_refuse_if
  F_refuse_if := ⟨_, fun_mk (st := s_refuse_if) h_l_refuse_if h_o_refuse_if h_k_refuse_if⟩
  k_refuse_if := h_k_refuse_if
  m_is_grouping := PySem.W.mg_of X G h_m_is_grouping
  F_is_grouping := ⟨_, fun_mk (st := s_is_grouping) h_l_is_grouping h_o_is_grouping h_k_is_grouping⟩
  k_is_grouping := h_k_is_grouping
  m_need_groupings := PySem.W.mg_of X G h_m_need_groupings
  F_need_groupings := ⟨_, fun_mk (st := s_need_groupings) h_l_need_groupings h_o_need_groupings h_k_need_groupings⟩
  k_need_groupings := h_k_need_groupings
  m_load := PySem.W.mg_of X G h_m_load
  F_load := ⟨_, fun_mk (st := s_load) h_l_load h_o_load h_k_load⟩
  k_load := h_k_load
  m_shown := PySem.W.mg_of X G h_m_shown
  F_shown := ⟨_, fun_mk (st := s_shown) h_l_shown h_o_shown h_k_shown⟩
  k_shown := h_k_shown
  m_wish := PySem.W.mg_of X G h_m_wish
  F_wish := ⟨_, fun_mk (st := s_wish) h_l_wish h_o_wish h_k_wish⟩
  k_wish := h_k_wish
  m_plain := PySem.W.mg_of X G h_m_plain
  F_plain := ⟨_, fun_mk (st := s_plain) h_l_plain h_o_plain h_k_plain⟩
  k_plain := h_k_plain
  m_told_with := PySem.W.mg_of X G h_m_told_with
  F_told_with := ⟨_, fun_mk (st := s_told_with) h_l_told_with h_o_told_with h_k_told_with⟩
  k_told_with := h_k_told_with
  m_best := PySem.W.mg_of X G h_m_best
  F_best := ⟨_, fun_mk (st := s_best) h_l_best h_o_best h_k_best⟩
  k_best := h_k_best
  m_is_step := PySem.W.mg_of X G h_m_is_step
  F_is_step := ⟨_, fun_mk (st := s_is_step) h_l_is_step h_o_is_step h_k_is_step⟩
  k_is_step := h_k_is_step
  m_check := PySem.W.mg_of X G h_m_check
  F_check := ⟨_, fun_mk (st := s_check) h_l_check h_o_check h_k_check⟩
  k_check := h_k_check
  m_read_by := PySem.W.mg_of X G h_m_read_by
  F_read_by := ⟨_, fun_mk (st := s_read_by) h_l_read_by h_o_read_by h_k_read_by⟩
  k_read_by := h_k_read_by
  m_idle := PySem.W.mg_of X G h_m_idle
  F_idle := ⟨_, fun_mk (st := s_idle) h_l_idle h_o_idle h_k_idle⟩
  k_idle := h_k_idle
  m_from_all := PySem.W.mg_of X G h_m_from_all
  F_from_all := ⟨_, fun_mk (st := s_from_all) h_l_from_all h_o_from_all h_k_from_all⟩
  k_from_all := h_k_from_all
  m_with_helpers := PySem.W.mg_of X G h_m_with_helpers
  F_with_helpers := ⟨_, fun_mk (st := s_with_helpers) h_l_with_helpers h_o_with_helpers h_k_with_helpers⟩
  k_with_helpers := h_k_with_helpers
  m_answered := PySem.W.mg_of X G h_m_answered
  F_answered := ⟨_, fun_mk (st := s_answered) h_l_answered h_o_answered h_k_answered⟩
  k_answered := h_k_answered
  m_answers := PySem.W.mg_of X G h_m_answers
  F_answers := ⟨_, fun_mk (st := s_answers) h_l_answers h_o_answers h_k_answers⟩
  k_answers := h_k_answers
end BA

namespace BA
open PySem PySem.Spec PyProof.Rows L2 Evl

/-! ### more of the kind of Evl -/
section
variable {K : PySem.W.Frag} {σ : L2.St} {H H' : Hp} {ta tb tc te : TE} {x y z v : V} {D : Ends} {tu tw tz : TS} {g : TG}
/-- a new tuple is handed back -/
def RetU (xs : List V) (H : Hp) (Q : VK) : Prop := ∀ p H2, H p = none → Ex H H2 → H2 p = some (.tup xs) → Q (.ref p) H2
def SpU (sp : Sp) (vs : List V) (H : Hp) (xs : List V) : Prop := ∀ H1, Ex H H1 → ∀ Q : VK, RetU xs H1 Q → ∀ E : XK, sp vs H1 Q E
theorem ev_fld {p C dx : Addr} {fs : List (Str × V)} {f : Str} (h : Ev ta σ H (.ref p)) (ho : H p = some (.ins C dx fs)) (c : Cls K C) (n : NoAttr K C f) (l : fs.lookup f = some v) : Ev (tFld K ta f) σ H v := fun H1 e Q q =>
  h H1 e _ fun H2 e2 => ⟨p, C, dx, fs, v, rfl, e2 _ _ (e _ _ ho), c, n, l, q H2 e2⟩
theorem ev_chain {r r' : R2} {b c : Bool} (ha : Ev ta σ H x) (hb : Ev tb σ H y) (hr : RV r x y H (.bl b)) (hc : b = true → Ev tc σ H z) (hr' : b = true → RV r' y z H (.bl c)) : Ev (tChain r r' ta tb tc) σ H (.bl (b && c)) := fun H1 e Q q =>
  ha H1 e _ fun H2 e2 => hb H2 (e.trans e2) _ fun H3 e3 => hr H3 ((e.trans e2).trans e3) _ fun H4 e4 => ⟨b, rfl, by
    cases b with
    | false => exact iteF (q H4 ((e2.trans e3).trans e4))
    | true => exact iteT (hc rfl H4 (((e.trans e2).trans e3).trans e4) _ fun H5 e5 => hr' rfl H5 ((((e.trans e2).trans e3).trans e4).trans e5) _ fun H6 e6 => q H6 ((((e2.trans e3).trans e4).trans e5).trans e6))⟩
theorem ev_g {sp : Sp} {E : L2.St → XK} {t : TA} {vs : List V} (h : EvA t σ H vs) (hs : SpV sp vs H z) : Ev (tG sp E t) σ H z := fun H1 e Q q =>
  h H1 e _ fun H2 e2 => hs H2 (e.trans e2) Q (fun H3 e3 => q H3 (e2.trans e3)) (E σ)
theorem el_g {sp : Sp} {E : L2.St → XK} {t : TA} {vs xs : List V} (h : EvA t σ H vs) (hs : SpL sp vs H xs) : EvL (tG sp E t) σ H xs := fun H1 e Q q =>
  h H1 e _ fun H2 e2 => hs H2 (e.trans e2) Q (fun p H3 hp e3 h3 => q p H3 (fresh_back e2 hp) (e2.trans e3) h3) (E σ)
theorem eu_g {sp : Sp} {E : L2.St → XK} {t : TA} {vs xs : List V} (h : EvA t σ H vs) (hs : SpU sp vs H xs) : EvU (tG sp E t) σ H xs := fun H1 e Q q =>
  h H1 e _ fun H2 e2 => hs H2 (e.trans e2) Q (fun p H3 hp e3 h3 => q p H3 (fresh_back e2 hp) (e2.trans e3) h3) (E σ)
section
variable {a C dx : Addr} {fs : List (Str × V)} {m : Str} {sp : Sp} {E : L2.St → XK} {t : TA} {vs xs : List V}
theorem ev_gm (ho : Ev ta σ H (.ref a)) (h0 : H a = some (.ins C dx fs)) (l : fs.lookup m = none) (h : EvA t σ H vs) (hs : SpV sp (.ref a :: vs) H z) : Ev (tGM C m sp E ta t) σ H z := fun H1 e Q q =>
  ho H1 e _ fun H2 e2 => ⟨a, dx, fs, rfl, e2 _ _ (e _ _ h0), l, h H2 (e.trans e2) _ fun H3 e3 => hs H3 ((e.trans e2).trans e3) Q (fun H4 e4 => q H4 ((e2.trans e3).trans e4)) (E σ)⟩
theorem el_gm (ho : Ev ta σ H (.ref a)) (h0 : H a = some (.ins C dx fs)) (l : fs.lookup m = none) (h : EvA t σ H vs) (hs : SpL sp (.ref a :: vs) H xs) : EvL (tGM C m sp E ta t) σ H xs := fun H1 e Q q =>
  ho H1 e _ fun H2 e2 => ⟨a, dx, fs, rfl, e2 _ _ (e _ _ h0), l, h H2 (e.trans e2) _ fun H3 e3 => hs H3 ((e.trans e2).trans e3) Q (fun p H4 hp e4 h4 => q p H4 (fresh_back (e2.trans e3) hp) ((e2.trans e3).trans e4) h4) (E σ)⟩
end
/-- a built-in's call that makes a tuple of a new list -/
theorem eu_tupL {xs : List V} (h : EvL te σ H xs) : EvU (tCB (fun vs H Q => ∃ p ys, vs = [V.ref p] ∧ ((SqL K H p ys ∧ ∀ l, H l = none → Q (.ref l) (upd H l (.tup ys))) ∨ (SqT K H p ys ∧ Q (.ref p) H))) (tCons te tNil)) σ H xs := fun H1 e Q q =>
  h H1 e _ fun p H2 hp e2 h2 => ⟨p, xs, rfl, .inl ⟨sq_of h2, fun l hl => q l _ (fresh_back e2 hl) (e2.trans (Ex.new hl)) upd_same⟩⟩
theorem el_listU {xs : List V} (h : EvU te σ H xs) : EvL (tCB (rListS K) (tCons te tNil)) σ H xs := fun H1 e Q q =>
  h H1 e _ fun p H2 hp e2 h2 => ⟨p, xs, rfl, .inr (st_of h2), fun l hl => q l _ (fresh_back e2 hl) (e2.trans (Ex.new hl)) upd_same⟩
/-- a comprehension over a text -/
theorem el_lcS {w : Str} {j : Nat} {vs : List Nat} (g : Nat → V) (h : Ev ta σ H (.str w)) (hz : w.length ≤ 40000) (hw : ∀ x, wipe ((wipe σ vs).set j (some x)) vs = wipe σ vs)
    (he : ∀ (c : Nat) H1, Ex H H1 → c ∈ w.cps.toList → Ev te ((wipe σ vs).set j (some (.str ⟨#[c]⟩))) H1 (g c)) : EvL (tLc (iStr ta) (gName j) tYes te vs) σ H (w.cps.toList.map g) := fun H0 e Q q => h H0 e _ fun H1 e1 => ⟨w, rfl, fun Dl hD => by
  have hlen : w.cps.toList.length = w.length := by simp [Str.length]
  refine ⟨fun i m H' => m = w.cps.size - i ∧ i ≤ w.cps.size ∧ Ex H1 H' ∧ H' Dl = some (.lst ((w.cps.toList.take i).map g)), ⟨_, rfl, Nat.zero_le _, Ex.new hD, upd_same⟩, ?_⟩
  rintro i m H' ⟨rfl, hi, e2, hl⟩
  by_cases hlt : i < w.cps.size
  · refine .inr ⟨hlt, fun H2 => Ex H1 H2 ∧ H2 Dl = some (.lst ((w.cps.toList.take (i + 1)).map g)), fun H2 p => ⟨w.cps.size - (i + 1), by omega, rfl, hlt, p⟩, fun x H2 y => ?_⟩
    obtain ⟨rfl, c, hc, rfl⟩ := y
    have hcl : w.cps.toList[i]? = some c := by rw [Array.getElem?_toList]; exact hc
    refine ⟨hw _, ?_⟩
    refine he c H2 ((e.trans e1).trans e2) (List.mem_of_getElem? hcl) H2 (Ex.refl _) _ fun H3 e3 => ⟨_, e3 _ _ hl, ?_, Ex.mut (e2.trans e3) hD, ?_⟩
    · refine sz_lt ?_
      rw [List.length_map, List.length_take]
      omega
    · rw [upd_same, List.take_succ, hcl, List.map_append]
      rfl
  · have e0 : i = w.cps.size := by omega
    subst e0
    refine .inl ⟨Nat.le_refl _, q Dl _ (fresh_back e1 hD) (e1.trans e2) ?_⟩
    rw [hl, List.take_of_length_le (by rw [hlen]; exact Nat.le_refl _)]⟩
end
end BA

namespace BA
open PySem PySem.Spec PyProof.Rows L2 Evl

theorem u65 {k : Nat} {A : Around} (hr : Room k A) : A.units + 65 < cLine := by have := hr.un; omega
theorem if_t {c : Bool} {A B : Prop} (hc : c = true) (h : A) : if c = true then A else B := by rw [if_pos hc]; exact h
theorem if_f {c : Bool} {A B : Prop} (hc : c = false) (h : B) : if c = true then A else B := by rw [hc]; exact h
/-! ### what stays but at some places -/
def FrL (l : List Addr) (H H' : Hp) : Prop := ∀ b o, H b = some o → b ∉ l → H' b = some o
section
variable {l : List Addr} {H H1 H2 : Hp} {p : Addr} {o u : HO}
theorem FrL.ex (e : Ex H H1) : FrL l H H1 := fun b o h _ => e b o h
theorem FrL.refl (H : Hp) : FrL l H H := fun _ _ h _ => h
theorem FrL.trans (f : FrL l H H1) (g : FrL l H1 H2) : FrL l H H2 := fun b o h n => g b o (f b o h n) n
theorem FrL.up (h : p ∈ l) : FrL l H (upd H p o) := fun b u e n => by
  rw [upd_ne (fun z => n (by rw [z]; exact h))]
  exact e
/-- a new object may be changed too -/
theorem FrL.upN (f : FrL l H H1) (h : H p = none) : FrL l H (upd H1 p o) := fun b u e n => by
  rw [upd_ne (fun z => by rw [z, h] at e; cases e)]
  exact f b u e n
theorem FrL.mono {m : List Addr} (f : FrL l H H1) (h : ∀ b ∈ l, b ∈ m) : FrL m H H1 := fun b o e n => f b o e fun z => n (h b z)
theorem FrL.nil (f : FrL [] H H1) : Ex H H1 := fun b o h => f b o h (fun z => nomatch z)
/-- places that are new (untracked) do not count -/
theorem FrL.new (f : FrL l H H1) (h : ∀ b ∈ l, H b = none) : Ex H H1 := fun b o e => f b o e fun z => by
  rw [h b z] at e
  cases e
theorem FrL.at1 (f : FrL [p] H H1) {b : Addr} (h : H b = some o) (n : b ≠ p) : H1 b = some o := f b o h (by simpa using n)
end
/-- fields: the same as before but one -/
theorem lk_here {k : Str} {v : V} {r : List (Str × V)} : List.lookup k ((k, v) :: r) = some v := by
  have z : (k == k) = true := beq_self_eq_true k
  simp only [List.lookup, z]
theorem lk_past {k g : Str} {v : V} {r : List (Str × V)} (h : (k == g) = false) : List.lookup k ((g, v) :: r) = List.lookup k r := by simp only [List.lookup, h]

section
variable {K : PySem.W.Frag} {σ : L2.St} {H H' : Hp} {ta tb tv te : TE} {x y z v : V} {D : Ends} {tu tw tz : TS} {p C dx : Addr} {fs : List (Str × V)} {f : Str}
theorem s_fld (hv : Ev tv σ H y) (ho : Ev ta σ H (.ref p)) (hp : H p = some (.ins C dx fs)) (c : Cls K C) (n : NoAttr K C f) (hl : fs.length ≤ 900) (k : ∀ H1, Ex H H1 → D.nx σ (upd H1 p (.ins C dx (putF f y fs)))) : sFld K ta tv f D σ H :=
  hv H (Ex.refl H) _ fun H1 e1 => ho H1 e1 _ fun H2 e2 => ⟨p, C, dx, fs, rfl, (e1.trans e2) _ _ hp, c, n, by omega, k H2 (e1.trans e2)⟩
theorem q_fld (hv : Ev tv σ H y) (ho : Ev ta σ H (.ref p)) (hp : H p = some (.ins C dx fs)) (c : Cls K C) (n : NoAttr K C f) (hl : fs.length ≤ 900) (k : ∀ H1, Ex H H1 → tz D σ (upd H1 p (.ins C dx (putF f y fs)))) : tSeq (sFld K ta tv f) tz D σ H :=
  s_fld (D := { D with nx := tz D }) hv ho hp c n hl k
theorem s_fldL {xs : List V} (hv : EvL tv σ H xs) (ho : Ev ta σ H (.ref p)) (hp : H p = some (.ins C dx fs)) (c : Cls K C) (n : NoAttr K C f) (hl : fs.length ≤ 900)
    (k : ∀ q H1, H q = none → Ex H H1 → H1 q = some (.lst xs) → D.nx σ (upd H1 p (.ins C dx (putF f (.ref q) fs)))) : sFld K ta tv f D σ H :=
  hv H (Ex.refl H) _ fun q H1 hq e1 h1 => ho H1 e1 _ fun H2 e2 => ⟨p, C, dx, fs, rfl, (e1.trans e2) _ _ hp, c, n, by omega, k q H2 hq (e1.trans e2) (e2 _ _ h1)⟩
theorem q_fldL {xs : List V} (hv : EvL tv σ H xs) (ho : Ev ta σ H (.ref p)) (hp : H p = some (.ins C dx fs)) (c : Cls K C) (n : NoAttr K C f) (hl : fs.length ≤ 900)
    (k : ∀ q H1, H q = none → Ex H H1 → H1 q = some (.lst xs) → tz D σ (upd H1 p (.ins C dx (putF f (.ref q) fs)))) : tSeq (sFld K ta tv f) tz D σ H := s_fldL (D := { D with nx := tz D }) hv ho hp c n hl k
/-- self.f += e, ints -/
theorem s_fldaug {i j : Int} (ho : Ev ta σ H (.ref p)) (hp : H p = some (.ins C dx fs)) (c : Cls K C) (n : NoAttr K C f) (hl : fs.length ≤ 900) (hk : fs.lookup f = some (.int i)) (hv : Ev tv σ H (.int j))
    (k : ∀ H1, Ex H H1 → D.nx σ (upd H1 p (.ins C dx (putF f (.int (i + j)) fs)))) : sFldAug K ta tv L2.rAdd f D σ H :=
  ho H (Ex.refl H) _ fun H1 e1 => ⟨p, C, dx, fs, .int i, rfl, e1 _ _ hp, c, n, hk, hv H1 e1 _ fun H2 e2 => ⟨i, j, rfl, rfl, dx, fs, (e1.trans e2) _ _ hp, by omega, k H2 (e1.trans e2)⟩⟩
theorem q_fldaug {i j : Int} (ho : Ev ta σ H (.ref p)) (hp : H p = some (.ins C dx fs)) (c : Cls K C) (n : NoAttr K C f) (hl : fs.length ≤ 900) (hk : fs.lookup f = some (.int i)) (hv : Ev tv σ H (.int j))
    (k : ∀ H1, Ex H H1 → tz D σ (upd H1 p (.ins C dx (putF f (.int (i + j)) fs)))) : tSeq (sFldAug K ta tv L2.rAdd f) tz D σ H := s_fldaug (D := { D with nx := tz D }) ho hp c n hl hk hv k
theorem q_asgR {i : Nat} (h : te σ H fun v H1 => tz D (σ.set i (some v)) H1) : tSeq (tAsg te (gName i)) tz D σ H := h
theorem s_asgR {i : Nat} (h : te σ H fun v H1 => D.nx (σ.set i (some v)) H1) : tAsg te (gName i) D σ H := h
theorem q_dropR (h : te σ H fun _ H1 => tz D σ H1) : tSeq (tDrop te) tz D σ H := h
theorem s_dropR (h : te σ H fun _ H1 => D.nx σ H1) : tDrop te D σ H := h
theorem s_retR (h : te σ H D.rt) : tRet te D σ H := h
theorem q_whenR {te : TE} (h : te σ H fun v H1 => ∃ b, v = .bl b ∧ if b = true then tu { D with nx := tz D } σ H1 else tz D σ H1) : tSeq (tIfS (tB te) tu tNext) tz D σ H := h
/-- an expression's value is such, and so is what it leaves -/
def EvP (te : TE) (σ : L2.St) (H : Hp) (P : V → Hp → Prop) : Prop := ∀ H1, Ex H H1 → ∀ Q : VK, (∀ v H2, Ex H1 H2 → P v H2 → Q v H2) → te σ H1 Q
theorem s_appP {P : V → Hp → Prop} {l : Addr} {xs : List V} (hl : H l = some (.lst xs)) (ha : Ev ta σ H (.ref l)) (h : EvP te σ H P) (hz : xs.length < 100000) (k : ∀ v H1, Ex H H1 → P v H1 → D.nx σ (upd H1 l (.lst (xs ++ [v])))) :
    tDrop (tBM K "list" rAppend ta (tCons te tNil)) D σ H := ha H (Ex.refl H) _ fun H1 e1 =>
  ⟨Or.inl ⟨rfl, xs, sq_of (e1 l _ hl)⟩, h H1 e1 _ fun v H2 e2 h2 => ⟨l, xs, v, rfl, rfl, (e1.trans e2) l _ hl, sz_lt hz, k v H2 (e1.trans e2) h2⟩⟩
theorem q_appP {P : V → Hp → Prop} {l : Addr} {xs : List V} (hl : H l = some (.lst xs)) (ha : Ev ta σ H (.ref l)) (h : EvP te σ H P) (hz : xs.length < 100000) (k : ∀ v H1, Ex H H1 → P v H1 → tz D σ (upd H1 l (.lst (xs ++ [v])))) :
    tSeq (tDrop (tBM K "list" rAppend ta (tCons te tNil))) tz D σ H := s_appP (D := { D with nx := tz D }) hl ha h hz k
theorem ep_pairU {xs : List V} (h : EvU ta σ H xs) (hb : Ev te σ H y) : EvP (tTup (tCons ta (tCons te tNil))) σ H (fun v H2 => ∃ p q, v = .ref p ∧ H2 p = some (.tup [.ref q, y]) ∧ H2 q = some (.tup xs)) := fun H1 e Q k =>
  h H1 e _ fun q H2 hq e2 h2 => hb H2 (e.trans e2) _ fun H3 e3 => ⟨(by show (2 : Nat) ≤ sizeLine; decide), fun p hp => k _ _ ((e2.trans e3).trans (Ex.new hp)) ⟨p, q, rfl, upd_same, by rw [upd_ne (ne_of_none (e3 _ _ h2) hp)]; exact e3 _ _ h2⟩⟩
/-! ### new instances -/
def EvN (te : TE) (σ : L2.St) (H : Hp) (C : Addr) (fs : List (Str × V)) : Prop := ∀ H1, Ex H H1 → ∀ Q : VK, (∀ q dx H2, H1 q = none → Ex H1 H2 → H2 q = some (.ins C dx fs) → Q (.ref q) H2) → te σ H1 Q
theorem en_gc {sp : Sp} {t : TA} {vs : List V} (h : EvA t σ H vs) (hs : ∀ H1, Ex H H1 → ∀ q dx, H1 q = some (.ins C dx []) → ∀ (Q : VK) (E : XK), (∀ H2, H2 q = some (.ins C dx fs) → FrL [q] H1 H2 → Q .non H2) → sp (.ref q :: vs) H1 Q E) : EvN (tGC C sp t) σ H C fs := fun H1 e Q k =>
  h H1 e _ fun H2 e2 q dx hq hdx ne => by
    have e3 : Ex H2 (upd (upd H2 dx (.own q)) q (.ins C dx [])) := Ex.mut (Ex.new hdx) hq
    refine hs _ ((e.trans e2).trans e3) q dx upd_same _ _ fun H3 h3 f3 => ⟨rfl, k q dx H3 (fresh_back e2 hq) (e2.trans fun b o hb => ?_) h3⟩
    have hne : b ≠ q := ne_of_none hb hq
    exact f3 b o (e3 b o hb) (by simpa using hne)
theorem s_parLV {i j : Nat} {xs : List V} (ha : EvL ta σ H xs) (hb : Ev tb σ H v) (k : ∀ q H1, H q = none → Ex H H1 → H1 q = some (.lst xs) → D.nx ((σ.set i (some (.ref q))).set j (some v)) H1) : tPar i j (tCons ta (tCons tb tNil)) D σ H :=
  ha H (Ex.refl H) _ fun q H1 hq e1 h1 => hb H1 e1 _ fun H2 e2 => ⟨_, _, rfl, k q H2 hq (e1.trans e2) (e2 _ _ h1)⟩
theorem q_parLV {i j : Nat} {xs : List V} (ha : EvL ta σ H xs) (hb : Ev tb σ H v) (k : ∀ q H1, H q = none → Ex H H1 → H1 q = some (.lst xs) → tz D ((σ.set i (some (.ref q))).set j (some v)) H1) : tSeq (tPar i j (tCons ta (tCons tb tNil))) tz D σ H := s_parLV (D := { D with nx := tz D }) ha hb k
theorem q_parVV {i j : Nat} (ha : Ev ta σ H x) (hb : Ev tb σ H v) (k : ∀ H1, Ex H H1 → tz D ((σ.set i (some x)).set j (some v)) H1) : tSeq (tPar i j (tCons ta (tCons tb tNil))) tz D σ H :=
  ha H (Ex.refl H) _ fun H1 e1 => hb H1 e1 _ fun H2 e2 => ⟨_, _, rfl, k H2 (e1.trans e2)⟩
theorem q_parLL {i j : Nat} {xs ys : List V} (ha : EvL ta σ H xs) (hb : EvL tb σ H ys) (k : ∀ q r H1, H q = none → H r = none → q ≠ r → Ex H H1 → H1 q = some (.lst xs) → H1 r = some (.lst ys) → tz D ((σ.set i (some (.ref q))).set j (some (.ref r))) H1) : tSeq (tPar i j (tCons ta (tCons tb tNil))) tz D σ H :=
  ha H (Ex.refl H) _ fun q H1 hq e1 h1 => hb H1 e1 _ fun r H2 hr e2 h2 => ⟨_, _, rfl, k q r H2 hq (fresh_back e1 hr) (ne_of_none h1 hr) (e1.trans e2) (e2 _ _ h1) h2⟩
theorem s_retN {C : Addr} (h : EvN te σ H C fs) (k : ∀ q dx H1, H q = none → Ex H H1 → H1 q = some (.ins C dx fs) → D.rt (.ref q) H1) : tRet te D σ H := h H (Ex.refl H) _ k
theorem s_appN {l : Addr} {xs : List V} (hl : H l = some (.lst xs)) (ha : Ev ta σ H (.ref l)) (h : EvN te σ H C fs) (hz : xs.length < 100000) (k : ∀ q dx H1, H q = none → Ex H H1 → H1 q = some (.ins C dx fs) → D.nx σ (upd H1 l (.lst (xs ++ [.ref q])))) :
    tDrop (tBM K "list" rAppend ta (tCons te tNil)) D σ H := ha H (Ex.refl H) _ fun H1 e1 =>
  ⟨Or.inl ⟨rfl, xs, sq_of (e1 l _ hl)⟩, h H1 e1 _ fun q dx H2 hq e2 h2 => ⟨l, xs, .ref q, rfl, rfl, (e1.trans e2) l _ hl, sz_lt hz, k q dx H2 (fresh_back e1 hq) (e1.trans e2) h2⟩⟩
theorem el_lstN {C : Addr} (h : EvN te σ H C fs) : ∀ H1, Ex H H1 → ∀ Q : VK, (∀ p q dx H2, H1 p = none → H1 q = none → Ex H1 H2 → H2 p = some (.lst [.ref q]) → H2 q = some (.ins C dx fs) → Q (.ref p) H2) → tLst (tCons te tNil) σ H1 Q := fun H1 e Q k =>
  h H1 e _ fun q dx H2 hq e2 h2 => ⟨(by show 1 ≤ sizeLine; decide), fun p hp => k p q dx _ (fresh_back e2 hp) hq (e2.trans (Ex.new hp)) upd_same (by rw [upd_ne (ne_of_none h2 hp)]; exact h2)⟩
end
/-! ### equality of rows of numbers -/
theorem eqv_ints : ∀ l m : List Int, PyData.eqvAll (l.map PyData.int) (m.map PyData.int) = decide (l = m)
  | [], [] => by simp [PyData.eqvAll]
  | [], _ :: _ => by simp [PyData.eqvAll]
  | _ :: _, [] => by simp [PyData.eqvAll]
  | a :: l, b :: m => by
    have ih := eqv_ints l m
    simp only [List.map_cons, PyData.eqvAll]
    rw [ih]
    simp [PyData.eqv, Bool.beq_eq_decide_eq]
theorem canLay_ints : ∀ l : List Int, PyData.canLayAll0 (l.map PyData.int) = true
  | [] => by simp [PyData.canLayAll0]
  | a :: l => by simp [PyData.canLayAll0, PyData.canLay0, canLay_ints l]
theorem depth_ints : ∀ l : List Int, PyData.depthAll (l.map PyData.int) = 0
  | [] => by simp [PyData.depthAll]
  | a :: l => by simp [PyData.depthAll, PyData.depth, depth_ints l]
theorem shaped_tupI (l : List Int) : SeqAt.shaped (.tuple (l.map PyData.int)) = true := by
  simp [SeqAt.shaped, PyData.canLay0, PyData.depth, canLay_ints l, depth_ints l]
theorem shaped_lstI (l : List Int) : SeqAt.shaped (.list (l.map PyData.int)) = true := by
  simp [SeqAt.shaped, PyData.canLay0, PyData.depth, canLay_ints l, depth_ints l]
theorem dpAll_ints {K : PySem.W.Frag} {H : Hp} : ∀ l : List Int, DpAll K H (l.map V.int) (l.map PyData.int)
  | [] => .nil
  | a :: l => .cons (.int a) (dpAll_ints l)
/-- two tuples of numbers: equal or not -/
theorem rv_eqTT {K : PySem.W.Frag} {H : Hp} {p q : Addr} {l m : List Int} (hp : SqT K H p (l.map V.int)) (hq : SqT K H q (m.map V.int)) : RV (rEqD K) (.ref p) (.ref q) H (.bl (decide (l = m))) := fun H1 e Q k =>
  ⟨_, _, .tup (ex_t e hp) (dpAll_ints l), .tup (ex_t e hq) (dpAll_ints m), shaped_tupI l, shaped_tupI m, by
    rw [PyData.eqv, eqv_ints]
    exact k H1 (Ex.refl _)⟩
theorem rv_eqLL {K : PySem.W.Frag} {H : Hp} {p q : Addr} {l m : List Int} (hp : SqL K H p (l.map V.int)) (hq : SqL K H q (m.map V.int)) : RV (rEqD K) (.ref p) (.ref q) H (.bl (decide (l = m))) := fun H1 e Q k =>
  ⟨_, _, .lst (ex_l e hp) (dpAll_ints l), .lst (ex_l e hq) (dpAll_ints m), shaped_lstI l, shaped_lstI m, by
    rw [PyData.eqv, eqv_ints]
    exact k H1 (Ex.refl _)⟩
/-! ### slices -/
theorem cut_mid (xs ys zs : List V) : cutV (xs ++ (ys ++ zs)) (some (xs.length : Nat)) (some ((xs.length + ys.length : Nat) : Int)) = ys := by
  unfold cutV
  rw [HT.sIx_nat, HT.sIx_nat, List.length_append, List.length_append, Nat.min_eq_left (by omega), Nat.min_eq_left (by omega), List.drop_append_of_le_length (Nat.le_refl _), List.drop_length, List.nil_append,
    show xs.length + ys.length - xs.length = ys.length by omega, List.take_append_of_le_length (Nat.le_refl _), List.take_length]
theorem cut_tail (xs ys : List V) : cutV (xs ++ ys) (some (xs.length : Nat)) none = ys := by
  unfold cutV
  rw [HT.sIx_nat, HT.sIx_none, List.length_append, Nat.min_eq_left (by omega), List.drop_append_of_le_length (Nat.le_refl _), List.drop_length, List.nil_append, show xs.length + ys.length - xs.length = ys.length by omega, List.take_length]
end BA

namespace BA
open PySem PySem.Spec PyProof.Rows L2 Evl

section
variable {K : PySem.W.Frag} {σ : L2.St} {H H' : Hp} {ta tb te tl : TE} {x y z v : V} {D : Ends} {tu tw tz : TS}
/-- for i, x in enumerate(xs), xs a list that stays -/
theorem s_forE {a : Addr} {xs : List V} {i j : Nat} (h : Ev tl σ H (.ref a)) (hx : SqL K H a xs) (Pv : Nat → L2.St → Hp → Prop) (h0 : ∀ H1, Ex H H1 → Pv 0 σ H1) (hl : ∀ k σ' H', k ≤ xs.length → Pv k σ' H' → SqL K H' a xs)
    (hs : ∀ k x σ' H' H2, xs[k]? = some x → Pv k σ' H' → Ex H' H2 → tu { D with nx := Pv (k + 1), ct := Pv (k + 1), bk := D.nx } ((σ'.set i (some (.int (k : Nat)))).set j (some x)) H2) (hd : ∀ σ' H', Pv xs.length σ' H' → D.nx σ' H') :
    tFor (iEnum K (tCons tl tNil)) (gTup K 2 (gCons (gName i) (gCons (gName j) gNil))) tu D σ H := h H (Ex.refl H) _ fun H1 e1 => by
  refine ⟨a, xs, rfl, ex_l e1 hx, fun k m σ' H' => m = xs.length - k ∧ k ≤ xs.length ∧ Pv k σ' H', ⟨_, rfl, Nat.zero_le _, h0 H1 e1⟩, ?_⟩
  rintro k m σ' H' ⟨rfl, hk, p⟩
  have hq := hl k σ' H' hk p
  by_cases hlt : k < xs.length
  · refine .inr ⟨⟨xs, xs[k], hq, by simp [hlt]⟩, Pv (k + 1), fun σ2 H2 p2 => ⟨xs.length - (k + 1), by omega, rfl, hlt, p2⟩, fun u H2 hy => ?_⟩
    obtain ⟨TT, x, rfl, hn, rfl, hxx⟩ := hy
    have e2 : Ex H' (upd H' TT (.tup [.int (k : Nat), x])) := Ex.new hn
    exact ⟨TT, _, rfl, st_of upd_same, rfl, _, _, rfl, _, _, rfl, rfl, hs k x σ' H' _ (hxx xs hq) p e2⟩
  · have e : k = xs.length := by omega
    subst e
    exact .inl ⟨⟨xs, hq, Nat.le_refl _⟩, hd σ' H' p⟩
theorem q_forE {a : Addr} {xs : List V} {i j : Nat} (h : Ev tl σ H (.ref a)) (hx : SqL K H a xs) (Pv : Nat → L2.St → Hp → Prop) (h0 : ∀ H1, Ex H H1 → Pv 0 σ H1) (hl : ∀ k σ' H', k ≤ xs.length → Pv k σ' H' → SqL K H' a xs)
    (hs : ∀ k x σ' H' H2, xs[k]? = some x → Pv k σ' H' → Ex H' H2 → tu { D with nx := Pv (k + 1), ct := Pv (k + 1), bk := tz D } ((σ'.set i (some (.int (k : Nat)))).set j (some x)) H2) (hd : ∀ σ' H', Pv xs.length σ' H' → tz D σ' H') :
    tSeq (tFor (iEnum K (tCons tl tNil)) (gTup K 2 (gCons (gName i) (gCons (gName j) gNil))) tu) tz D σ H := s_forE (D := { D with nx := tz D }) h hx Pv h0 hl hs hd
/-- for i, x in a list of pairs -/
theorem q_for2 {a : Addr} {xs : List V} {i j : Nat} (h : Ev tl σ H (.ref a)) (hx : SqL K H a xs) (Pv : Nat → L2.St → Hp → Prop) (h0 : ∀ H1, Ex H H1 → Pv 0 σ H1) (hl : ∀ k σ' H', k ≤ xs.length → Pv k σ' H' → SqL K H' a xs)
    (hs : ∀ k w σ' H', xs[k]? = some w → Pv k σ' H' → ∃ p u v, w = .ref p ∧ SqT K H' p [u, v] ∧ tu { D with nx := Pv (k + 1), ct := Pv (k + 1), bk := tz D } ((σ'.set i (some u)).set j (some v)) H') (hd : ∀ σ' H', Pv xs.length σ' H' → tz D σ' H') :
    tSeq (tFor (iList K tl) (gTup K 2 (gCons (gName i) (gCons (gName j) gNil))) tu) tz D σ H := q_forL h hx Pv h0 hl (fun k w σ' H' hk p => by
  obtain ⟨q, u, v, rfl, hq, ht⟩ := hs k w σ' H' hk p
  exact ⟨q, _, rfl, hq, rfl, _, _, rfl, _, _, rfl, rfl, ht⟩) hd
/-- xs.extend(new list) -/
theorem s_ext {l : Addr} {xs ys : List V} (hl : H l = some (.lst xs)) (ha : Ev ta σ H (.ref l)) (h : EvL te σ H ys) (hz : xs.length + ys.length ≤ 100000) (k : ∀ H1, Ex H H1 → D.nx σ (upd H1 l (.lst (xs ++ ys)))) :
    tDrop (tBM K "list" rExtend ta (tCons te tNil)) D σ H := ha H (Ex.refl H) _ fun H1 e1 =>
  ⟨Or.inl ⟨rfl, xs, sq_of (e1 l _ hl)⟩, h H1 e1 _ fun p H2 hp e2 h2 => ⟨l, p, xs, ys, rfl, rfl, (e1.trans e2) l _ hl, h2, sz_of hz, k H2 (e1.trans e2)⟩⟩
theorem q_ext {l : Addr} {xs ys : List V} (hl : H l = some (.lst xs)) (ha : Ev ta σ H (.ref l)) (h : EvL te σ H ys) (hz : xs.length + ys.length ≤ 100000) (k : ∀ H1, Ex H H1 → tz D σ (upd H1 l (.lst (xs ++ ys)))) :
    tSeq (tDrop (tBM K "list" rExtend ta (tCons te tNil))) tz D σ H := s_ext (D := { D with nx := tz D }) hl ha h hz k
theorem el_listT {p : Addr} {xs : List V} (ha : Ev ta σ H (.ref p)) (h : SqT K H p xs) : EvL (tCB (rListS K) (tCons ta tNil)) σ H xs := fun H1 e Q q =>
  ha H1 e _ fun H2 e2 => ⟨p, xs, rfl, .inr (ex_t (e.trans e2) h), fun l hl => q l _ (fresh_back e2 hl) (e2.trans (Ex.new hl)) upd_same⟩
/-- new lists joined -/
theorem el_cat {xs ys : List V} (ha : EvL ta σ H xs) (hb : EvL tb σ H ys) (hz : xs.length + ys.length ≤ 100000) : EvL (tOp rCat ta tb) σ H (xs ++ ys) := fun H1 e Q q =>
  ha H1 e _ fun p H2 hp e2 h2 => hb H2 (e.trans e2) _ fun r H3 hr e3 h3 => ⟨p, r, xs, ys, rfl, rfl, e3 _ _ h2, h3, sz_of hz, fun s hs => q s _ (fresh_back (e2.trans e3) hs) ((e2.trans e3).trans (Ex.new hs)) upd_same⟩
/-- a standing list and a new one -/
theorem el_catV {p : Addr} {xs ys : List V} (ha : Ev ta σ H (.ref p)) (hp : H p = some (.lst xs)) (hb : EvL tb σ H ys) (hz : xs.length + ys.length ≤ 100000) : EvL (tOp rCat ta tb) σ H (xs ++ ys) := fun H1 e Q q =>
  ha H1 e _ fun H2 e2 => hb H2 (e.trans e2) _ fun r H3 hr e3 h3 => ⟨p, r, xs, ys, rfl, rfl, ((e.trans e2).trans e3) _ _ hp, h3, sz_of hz, fun s hs => q s _ (fresh_back (e2.trans e3) hs) ((e2.trans e3).trans (Ex.new hs)) upd_same⟩
theorem el_catVV {p r : Addr} {xs ys : List V} (ha : Ev ta σ H (.ref p)) (hp : H p = some (.lst xs)) (hb : Ev tb σ H (.ref r)) (hr : H r = some (.lst ys)) (hz : xs.length + ys.length ≤ 100000) : EvL (tOp rCat ta tb) σ H (xs ++ ys) := fun H1 e Q q =>
  ha H1 e _ fun H2 e2 => hb H2 (e.trans e2) _ fun H3 e3 => ⟨p, r, xs, ys, rfl, rfl, ((e.trans e2).trans e3) _ _ hp, ((e.trans e2).trans e3) _ _ hr, sz_of hz, fun s hs => q s _ (fresh_back (e2.trans e3) hs) ((e2.trans e3).trans (Ex.new hs)) upd_same⟩
theorem el_catLV {r : Addr} {xs ys : List V} (ha : EvL ta σ H xs) (hb : Ev tb σ H (.ref r)) (hr : H r = some (.lst ys)) (hz : xs.length + ys.length ≤ 100000) : EvL (tOp rCat ta tb) σ H (xs ++ ys) := fun H1 e Q q =>
  ha H1 e _ fun p H2 hp e2 h2 => hb H2 (e.trans e2) _ fun H3 e3 => ⟨p, r, xs, ys, rfl, rfl, e3 _ _ h2, ((e.trans e2).trans e3) _ _ hr, sz_of hz, fun s hs => q s _ (fresh_back (e2.trans e3) hs) ((e2.trans e3).trans (Ex.new hs)) upd_same⟩
theorem ev_str {i : Int} (ha : Ev ta σ H (.int i)) (hz : i.natAbs.log2 < 1920) : Ev (tCB (fun xs H Q => ∃ i : Int, xs = [V.int i] ∧ i.natAbs.log2 < 1920 ∧ Q (.str (toString i)) H) (tCons ta tNil)) σ H (.str (toString i)) :=
  ev_cb (ea_cons ha ea_nil) fun H1 e Q q => ⟨i, rfl, hz, q H1 (Ex.refl _)⟩
theorem rv_addS {u w : Str} (hz : u.length + w.length ≤ 100000) : RV (fun x y H Q => ∃ i j, x = V.str i ∧ y = V.str j ∧ i.length + j.length ≤ sizeLine ∧ Q (.str (i ++ j)) H) (.str u) (.str w) H (.str (u ++ w)) := fun H1 e Q q => ⟨u, w, rfl, rfl, sz_of hz, q H1 (Ex.refl _)⟩
/-- a new list whose items are told -/
def EvLP (te : TE) (σ : L2.St) (H : Hp) (P : List V → Hp → Prop) : Prop := ∀ H1, Ex H H1 → ∀ Q : VK, (∀ p xs H2, H1 p = none → Ex H1 H2 → H2 p = some (.lst xs) → P xs H2 → Q (.ref p) H2) → te σ H1 Q
/-- a comprehension over a tuple, its items new tuples -/
theorem elp_lcT {a : Addr} {xs : List V} {j : Nat} {vs : List Nat} (g : V → List V) (h : Ev tl σ H (.ref a)) (hx : SqT K H a xs) (hz : xs.length ≤ 40000) (hw : ∀ x, wipe ((wipe σ vs).set j (some x)) vs = wipe σ vs)
    (he : ∀ (x : V) H1, Ex H H1 → x ∈ xs → EvU te ((wipe σ vs).set j (some x)) H1 (g x)) : EvLP (tLc (iTup K tl) (gName j) tYes te vs) σ H (fun ys H2 => Paired (fun y x => ∃ q, y = V.ref q ∧ H2 q = some (.tup (g x))) ys xs) := fun H0 e Q q => h H0 e _ fun H1 e1 => ⟨a, rfl, ⟨xs, ex_t (e.trans e1) hx⟩, fun Dl hD =>
  lc_tup (xs := xs) (fun i H' => Ex H1 H' ∧ i ≤ xs.length ∧ ∃ ys, H' Dl = some (.lst ys) ∧ Paired (fun y x => ∃ q, y = V.ref q ∧ H' q = some (.tup (g x))) ys (xs.take i)) ⟨Ex.new hD, Nat.zero_le _, [], upd_same, .nil⟩ (fun i H' _ p => ex_t ((e.trans e1).trans p.1) hx)
    (fun i x H' hi ⟨p1, hil, ys, p2, p3⟩ => ⟨hw x, by
      have hlt := (List.getElem?_eq_some_iff.mp hi).1
      have hyl : ys.length = i := by
        have := Paired.length p3
        rw [List.length_take] at this
        omega
      refine he x H' ((e.trans e1).trans p1) (List.mem_of_getElem? hi) H' (Ex.refl _) _ fun r H3 hr e3 h3 => ⟨ys, e3 _ _ p2, sz_lt (by omega), Ex.mut (p1.trans e3) hD, hlt, ys ++ [.ref r], upd_same, ?_⟩
      have kp : ∀ {b : Addr} {ts : List V}, H3 b = some (.tup ts) → upd H3 Dl (.lst (ys ++ [.ref r])) b = some (.tup ts) := fun hb => by
        rw [upd_ne (ne_of hb (e3 _ _ p2) (by intro w; cases w))]
        exact hb
      rw [List.take_succ, hi]
      have key : ∀ {us : List V} {ws : List V}, Paired (fun y x => ∃ q, y = V.ref q ∧ H' q = some (.tup (g x))) us ws → Paired (fun y x => ∃ q, y = V.ref q ∧ upd H3 Dl (.lst (ys ++ [.ref r])) q = some (.tup (g x))) (us ++ [.ref r]) (ws ++ [x]) := by
        intro us ws hp
        induction hp with
        | nil => exact .cons ⟨r, rfl, kp h3⟩ .nil
        | cons hh _ ih =>
          obtain ⟨q, hq1, hq2⟩ := hh
          exact .cons ⟨q, hq1, kp (e3 _ _ hq2)⟩ ih
      exact key p3⟩)
    (fun H' ⟨p1, _, ys, p2, p3⟩ => q Dl ys H' (fresh_back e1 hD) (e1.trans p1) p2 (by rw [List.take_length] at p3; exact p3))⟩
/-- a comprehension over enumerate(a list) -/
theorem el_lcE {a : Addr} {xs : List V} {i j : Nat} {t : TT} {vs : List Nat} (f : Nat → Bool) (v : Nat → V) (h : Ev tl σ H (.ref a)) (hx : SqL K H a xs) (hz : xs.length ≤ 40000) (hw : ∀ x y, wipe (((wipe σ vs).set i (some x)).set j (some y)) vs = wipe σ vs)
    (ht : ∀ (k : Nat) (x : V) H1, Ex H H1 → xs[k]? = some x → EvT t (((wipe σ vs).set i (some (.int (k : Nat)))).set j (some x)) H1 (f k)) (he : ∀ (k : Nat) (x : V) H1, Ex H H1 → xs[k]? = some x → f k = true → Ev te (((wipe σ vs).set i (some (.int (k : Nat)))).set j (some x)) H1 (v k)) :
    EvL (tLc (iEnum K (tCons tl tNil)) (gTup K 2 (gCons (gName i) (gCons (gName j) gNil))) t te vs) σ H (given xs.length f v) := fun H0 e Q q => h H0 e _ fun H1 e1 => ⟨a, xs, rfl, ex_l (e.trans e1) hx, fun Dl hD => by
  refine ⟨fun k m H' => m = xs.length - k ∧ k ≤ xs.length ∧ Cw H1 f v Dl k H', ⟨_, rfl, Nat.zero_le _, ⟨hD, Ex.new hD, upd_same⟩⟩, ?_⟩
  rintro k m H' ⟨rfl, hk, p⟩
  have hq := ex_l ((e.trans e1).trans p.2.1) hx
  by_cases hlt : k < xs.length
  · refine .inr ⟨⟨xs, xs[k], hq, by simp [hlt]⟩, Cw H1 f v Dl (k + 1), fun H2 p2 => ⟨xs.length - (k + 1), by omega, rfl, hlt, p2⟩, fun u H2 hy => ?_⟩
    obtain ⟨TT, x, rfl, hn, rfl, hxx⟩ := hy
    have e2 : Ex H' (upd H' TT (.tup [.int (k : Nat), x])) := Ex.new hn
    have p2 : Cw H1 f v Dl k (upd H' TT (.tup [.int (k : Nat), x])) := ⟨p.1, p.2.1.trans e2, e2 _ _ p.2.2⟩
    have hkx := hxx xs hq
    exact ⟨TT, _, rfl, st_of upd_same, rfl, _, _, rfl, _, _, rfl, rfl, hw _ _, cw_turn p2 (by omega) (ht k x H1 (e.trans e1) hkx) fun hf => he k x H1 (e.trans e1) hkx hf⟩
  · have e0 : k = xs.length := by omega
    subst e0
    exact .inl ⟨⟨xs, hq, Nat.le_refl _⟩, q Dl H' (fresh_back e1 p.1) (e1.trans p.2.1) p.2.2⟩⟩
end
end BA

/-! pure: bytes, digits, tokens -/
namespace BA
open VamvsBase

theorem dw_len (f : UInt8 → Bool) : ∀ l : Bytes, (l.dropWhile f).length ≤ l.length
  | [] => Nat.le_refl _
  | b :: r => by
    rw [List.dropWhile_cons]
    split
    · exact Nat.le_trans (dw_len f r) (Nat.le_succ _)
    · exact Nat.le_refl _
/-- what is behind blanks and remarks -/
def skip : Bytes → Bytes
  | [] => []
  | b :: r => if isBlank b = true then skip r else if b == 35 then skip (r.dropWhile (· != 10)) else b :: r
termination_by l => l.length
decreasing_by
  all_goals simp_wf
  have := dw_len (fun x => x != 10) r
  omega
theorem skip_nil : skip [] = [] := by rw [skip]
theorem skip_blank {b : UInt8} {r : Bytes} (h : isBlank b = true) : skip (b :: r) = skip r := by rw [skip, if_pos h]
theorem skip_rem {b : UInt8} {r : Bytes} (h : (b == 35) = true) : skip (b :: r) = skip (r.dropWhile (· != 10)) := by
  have e : b = 35 := by simpa using h
  have hb : ¬ isBlank b = true := by rw [e]; decide
  rw [skip, if_neg hb, if_pos h]
theorem skip_stop {b : UInt8} {r : Bytes} (h : isBlank b = false) (h2 : (b == 35) = false) : skip (b :: r) = b :: r := by
  rw [skip, if_neg (by rw [h]; decide), if_neg (by rw [h2]; decide)]
theorem skip_cases : ∀ (n : Nat) (l : Bytes), l.length ≤ n → skip l = [] ∨ ∃ b r, skip l = b :: r ∧ isBlank b = false ∧ (b == 35) = false
  | _, [], _ => .inl skip_nil
  | 0, _ :: _, h => by simp at h
  | n + 1, b :: r, h => by
    have hr : r.length ≤ n := by simpa using h
    by_cases h1 : isBlank b = true
    · rw [skip_blank h1]
      exact skip_cases n r hr
    · by_cases h2 : (b == 35) = true
      · rw [skip_rem h2]
        exact skip_cases n _ (Nat.le_trans (dw_len _ r) hr)
      · exact .inr ⟨b, r, skip_stop (by simpa using h1) (by simpa using h2), by simpa using h1, by simpa using h2⟩
theorem drop_suffix (f : UInt8 → Bool) (l : Bytes) : ∃ p, l = p ++ l.dropWhile f := ⟨l.takeWhile f, (List.takeWhile_append_dropWhile).symm⟩
theorem skip_suffix : ∀ (n : Nat) (l : Bytes), l.length ≤ n → ∃ p, l = p ++ skip l
  | _, [], _ => ⟨[], by rw [skip_nil]; rfl⟩
  | 0, _ :: _, h => by simp at h
  | n + 1, b :: r, h => by
    have hr : r.length ≤ n := by simpa using h
    by_cases h1 : isBlank b = true
    · obtain ⟨p, e⟩ := skip_suffix n r hr
      refine ⟨b :: p, ?_⟩
      rw [skip_blank h1, List.cons_append, ← e]
    · by_cases h2 : (b == 35) = true
      · obtain ⟨p, e⟩ := skip_suffix n (r.dropWhile (· != 10)) (Nat.le_trans (dw_len _ r) hr)
        obtain ⟨q, e2⟩ := drop_suffix (· != 10) r
        refine ⟨b :: (q ++ p), ?_⟩
        rw [skip_rem h2, List.cons_append, List.append_assoc, ← e, ← e2]
      · exact ⟨[], by rw [skip_stop (by simpa using h1) (by simpa using h2)]; rfl⟩
theorem skip_split (l : Bytes) : ∃ p, l = p ++ skip l := skip_suffix l.length l (Nat.le_refl _)

/-! ### numbers -/
theorem decimal_snoc (l : Bytes) (b : UInt8) : decimal (l ++ [b]) = 10 * decimal l + (b.toNat - 48) := by
  unfold decimal
  rw [List.foldl_append]
  rfl
theorem digit_iff {b : UInt8} : isDigit b = true ↔ 48 ≤ b.toNat ∧ b.toNat ≤ 57 := by
  unfold isDigit
  rw [decide_eq_true_iff]
theorem foldDec (l : Bytes) : ∀ n : Nat, (∀ b ∈ l, isDigit b = true) → n * 10 ^ l.length ≤ l.foldl (fun n b => 10 * n + (b.toNat - 48)) n ∧ l.foldl (fun n b => 10 * n + (b.toNat - 48)) n < (n + 1) * 10 ^ l.length := by
  induction l with
  | nil => intro n _; simp
  | cons b r ih =>
    intro n h
    have hb := digit_iff.mp (h b List.mem_cons_self)
    obtain ⟨h1, h2⟩ := ih (10 * n + (b.toNat - 48)) fun c hc => h c (List.mem_cons_of_mem _ hc)
    rw [List.foldl_cons, List.length_cons, Nat.pow_succ]
    constructor
    · refine Nat.le_trans ?_ h1
      have : n * (10 ^ r.length * 10) = (10 * n) * 10 ^ r.length := by rw [Nat.mul_comm (10 ^ r.length) 10, ← Nat.mul_assoc, Nat.mul_comm n 10]
      rw [this]
      exact Nat.mul_le_mul_right _ (Nat.le_add_right _ _)
    · refine Nat.lt_of_lt_of_le h2 ?_
      have : (n + 1) * (10 ^ r.length * 10) = (10 * (n + 1)) * 10 ^ r.length := by rw [Nat.mul_comm (10 ^ r.length) 10, ← Nat.mul_assoc, Nat.mul_comm (n + 1) 10]
      rw [this]
      exact Nat.mul_le_mul_right _ (by omega)
theorem decimal_lt {l : Bytes} (h : ∀ b ∈ l, isDigit b = true) : decimal l < 10 ^ l.length := by
  have := (foldDec l 0 h).2
  simpa [decimal] using this
/-- the program's test of a number -/
theorem numberOf_eq {c : UInt8} {r : Bytes} (h : ∀ b ∈ c :: r, isDigit b = true) : numberOf (c :: r) = if NUMBER < decimal (c :: r) ∨ (c.toNat = 48 ∧ 1 < (c :: r).length) then none else some (decimal (c :: r)) := by
  have hc : (c = 48) ↔ c.toNat = 48 := by
    constructor
    · intro e; rw [e]; rfl
    · intro e; exact UInt8.toNat_inj.mp e
  unfold numberOf
  by_cases h1 : NUMBER < decimal (c :: r) ∨ (c.toNat = 48 ∧ 1 < (c :: r).length)
  · rw [if_pos h1, if_pos]
    rcases h1 with h1 | ⟨h1, h2⟩
    · exact .inr (.inr (.inr h1))
    · exact .inr (.inr (.inl ⟨h2, by rw [List.head?_cons, hc.mpr h1]⟩))
  · rw [if_neg h1, if_neg]
    rintro (e | e | ⟨e1, e2⟩ | e)
    · cases e
    · have hd := digit_iff.mp (h c List.mem_cons_self)
      have h48 : c.toNat ≠ 48 := fun z => h1 (.inr ⟨z, by omega⟩)
      obtain ⟨k1, _⟩ := foldDec r (c.toNat - 48) fun b hb => h b (List.mem_cons_of_mem _ hb)
      have k2 : decimal (c :: r) = r.foldl (fun n b => 10 * n + (b.toNat - 48)) (c.toNat - 48) := by
        unfold decimal
        rw [List.foldl_cons]
        simp
      have k3 : 10 ^ 10 ≤ 10 ^ r.length := Nat.pow_le_pow_right (by decide) (by rw [List.length_cons] at e; omega)
      have k4 : 1 * 10 ^ 10 ≤ (c.toNat - 48) * 10 ^ r.length := Nat.mul_le_mul (by omega) k3
      refine h1 (.inl ?_)
      rw [k2]
      exact Nat.lt_of_lt_of_le (by decide) (Nat.le_trans k4 k1)
    · rw [List.head?_cons] at e2
      exact h1 (.inr ⟨hc.mp (Option.some.inj e2), e1⟩)
    · exact h1 (.inl e)

/-! ### lex, without its fuel -/
/-- one piece more -/
theorem lex_skip : ∀ (m : Nat) (l : Bytes), l.length ≤ m → ∀ (n at_ : Nat), l.length < n → ∃ n', (skip l).length < n' ∧ lex n at_ l = lex n' (at_ + (l.length - (skip l).length)) (skip l)
  | _, [], _, n, at_, hn => ⟨n, by rw [skip_nil]; exact hn, by rw [skip_nil]; rfl⟩
  | 0, _ :: _, h, _, _, _ => by simp at h
  | m + 1, b :: r, h, n, at_, hn => by
    have hr : r.length ≤ m := by simpa using h
    obtain ⟨k, rfl⟩ : ∃ k, n = k + 1 := ⟨n - 1, by rw [List.length_cons] at hn; omega⟩
    have hk : r.length < k := by rw [List.length_cons] at hn; omega
    by_cases h1 : isBlank b = true
    · obtain ⟨n', h2, h3⟩ := lex_skip m r hr k (at_ + 1) hk
      obtain ⟨p, e⟩ := skip_split r
      have el := congrArg List.length e
      rw [List.length_append] at el
      refine ⟨n', by rw [skip_blank h1]; exact h2, ?_⟩
      rw [lex, if_pos h1, skip_blank h1, h3, List.length_cons]
      congr 1
      omega
    · by_cases h2 : (b == 35) = true
      · have hd := dw_len (· != 10) r
        obtain ⟨n', h3, h4⟩ := lex_skip m (r.dropWhile (· != 10)) (Nat.le_trans hd hr) k (at_ + 1 + (r.takeWhile (· != 10)).length) (Nat.lt_of_le_of_lt hd hk)
        obtain ⟨p, e⟩ := skip_split (r.dropWhile (· != 10))
        have el := congrArg List.length e
        rw [List.length_append] at el
        have er := congrArg List.length (List.takeWhile_append_dropWhile (p := (· != (10 : UInt8))) (l := r))
        rw [List.length_append] at er
        refine ⟨n', by rw [skip_rem h2]; exact h3, ?_⟩
        rw [lex, if_neg h1, if_pos h2, skip_rem h2, h4, List.length_cons]
        congr 1
        omega
      · have e : skip (b :: r) = b :: r := skip_stop (by simpa using h1) (by simpa using h2)
        refine ⟨k + 1, by rw [e]; exact hn, ?_⟩
        rw [e]
        congr 1
        omega
theorem lex_end {n at_ : Nat} : lex n at_ [] = .ok [⟨at_, .last⟩] := by cases n <;> rfl
theorem lex_tok {n at_ : Nat} {b : UInt8} {r : Bytes} (h1 : isBlank b = false) (h2 : (b == 35) = false) : lex (n + 1) at_ (b :: r) = match token (b :: r) with
    | none => .error ⟨2, at_⟩
    | some x => (lex n (at_ + x.2) ((b :: r).drop x.2)).map fun l => ⟨at_, x.1⟩ :: l := by
  rw [lex, if_neg (by rw [h1]; decide), if_neg (by rw [h2]; decide)]
  rfl
theorem tok_pos {b : UInt8} {r : Bytes} {x : Tok × Nat} (h : token (b :: r) = some x) : 0 < x.2 := by
  unfold token at h
  simp only at h
  split at h
  · rename_i hl
    split at h
    · cases h
    · cases h
      rw [List.takeWhile_cons, if_pos (by rw [hl]; rfl)]
      exact Nat.succ_pos _
  · split at h
    · rename_i hd
      cases e : numberOf (List.takeWhile isDigit (b :: r)) with
      | none => rw [e] at h; cases h
      | some n =>
        rw [e] at h
        cases h
        rw [List.takeWhile_cons, if_pos hd]
        exact Nat.succ_pos _
    · split at h
      · cases h
        exact Nat.one_pos
      · cases h
/-- enough fuel is enough -/
theorem lex_fuel : ∀ (m : Nat) (l : Bytes), l.length ≤ m → ∀ (n n' at_ : Nat), l.length < n → l.length < n' → lex n at_ l = lex n' at_ l
  | _, [], _, n, n', at_, _, _ => by rw [lex_end, lex_end]
  | 0, _ :: _, h, _, _, _, _, _ => by simp at h
  | m + 1, b :: r, h, n, n', at_, hn, hn' => by
    have hr : r.length ≤ m := by simpa using h
    obtain ⟨k, rfl⟩ : ∃ k, n = k + 1 := ⟨n - 1, by rw [List.length_cons] at hn; omega⟩
    obtain ⟨k', rfl⟩ : ∃ k, n' = k + 1 := ⟨n' - 1, by rw [List.length_cons] at hn'; omega⟩
    have hk : r.length < k := by rw [List.length_cons] at hn; omega
    have hk' : r.length < k' := by rw [List.length_cons] at hn'; omega
    by_cases h1 : isBlank b = true
    · rw [lex, lex, if_pos h1, if_pos h1]
      exact lex_fuel m r hr k k' _ hk hk'
    · by_cases h2 : (b == 35) = true
      · have hd := dw_len (· != 10) r
        rw [lex, lex, if_neg h1, if_neg h1, if_pos h2, if_pos h2]
        exact lex_fuel m _ (Nat.le_trans hd hr) k k' _ (Nat.lt_of_le_of_lt hd hk) (Nat.lt_of_le_of_lt hd hk')
      · rw [lex_tok (by simpa using h1) (by simpa using h2), lex_tok (by simpa using h1) (by simpa using h2)]
        cases e : token (b :: r) with
        | none => rfl
        | some x =>
          have hp := tok_pos e
          have hl : ((b :: r).drop x.2).length ≤ r.length := by rw [List.length_drop, List.length_cons]; omega
          show (lex k _ _).map _ = (lex k' _ _).map _
          rw [lex_fuel m _ (Nat.le_trans hl hr) k k' _ (Nat.lt_of_le_of_lt hl hk) (Nat.lt_of_le_of_lt hl hk')]
end BA

/-! pure: the parser's pieces, and that its fuel never runs out -/
namespace BA
open VamvsBase Vamvsa

/-- a number from low to high -/
def takeNum (low high : Nat) (l : Toks) : Except Fault (Nat × Toks) := match l with
  | ⟨q, .num n⟩ :: r => if n < low ∨ high < n then .error ⟨7, q⟩ else .ok (n, r)
  | m => wrong m
theorem takeNat_eq (most : Nat) (l : Toks) : takeNat most l = takeNum 0 most l := by
  have key : ∀ n : Nat, (n < 0 ∨ most < n) ↔ most < n := fun n => by omega
  unfold takeNat takeNum
  simp only [key]
  rcases l with _ | ⟨⟨q, t⟩, r⟩
  · rfl
  · cases t <;> rfl
theorem takeNum_ok {low high n : Nat} {l r : Toks} (h : takeNum low high l = .ok (n, r)) : ∃ p, l = ⟨p, .num n⟩ :: r ∧ low ≤ n ∧ n ≤ high := by
  unfold takeNum at h
  split at h
  · rename_i q m r'
    split at h
    · cases h
    · cases h
      exact ⟨q, rfl, by omega, by omega⟩
  · cases h
theorem takeName_ok {l r : Toks} {x : PName} (h : takeName l = .ok (x, r)) : l = ⟨x.place, .name x.name⟩ :: r ∧ RESERVED.contains x.name = false := by
  unfold takeName at h
  split at h
  · rename_i p b r'
    split at h
    · cases h
    · rename_i hb
      cases h
      exact ⟨rfl, by simpa using hb⟩
  · cases h
theorem taken_ok {t : VamvsBase.Tok} {l r : Toks} (h : taken t l = .ok r) : VamvsBase.next t l = true ∧ r = l.drop 1 := by
  unfold taken at h
  split at h
  · rename_i hn
    cases h
    exact ⟨hn, rfl⟩
  · cases h
theorem next_len {t : VamvsBase.Tok} {l : Toks} (h : VamvsBase.next t l = true) : (l.drop 1).length < l.length := by
  cases l with
  | nil => cases h
  | cons x r => simp
/-! ### columns -/
def takeCol (cs : List Bytes) (l : Toks) : Except Fault (Bytes × Toks) := (takeName l).bind fun x => if COLUMNS ≤ cs.length then .error ⟨4, x.1.place⟩ else if cs.contains x.1.name = true then .error ⟨5, x.1.place⟩ else .ok (x.1.name, x.2)
def takeColsC (n : Nat) (cs : List Bytes) (l : Toks) : Except Fault (List Bytes × Toks) := if VamvsBase.next (.sign 44) l = true then takeColumns n cs (l.drop 1) else (takeSign 59 l).map fun m => (cs, m)
theorem takeColumns_succ (n : Nat) (cs : List Bytes) (l : Toks) : takeColumns (n + 1) cs l = (takeCol cs l).bind fun x => takeColsC n (cs ++ [x.1]) x.2 := by
  unfold takeColumns takeCol takeColsC
  cases takeName l with
  | error f => rfl
  | ok x =>
    show (if _ then _ else _) = Except.bind (if _ then _ else _) _
    by_cases h1 : COLUMNS ≤ cs.length
    · rw [if_pos h1, if_pos h1]; rfl
    · rw [if_neg h1, if_neg h1]
      by_cases h2 : cs.contains x.1.name = true
      · rw [if_pos h2, if_pos h2]; rfl
      · rw [if_neg h2, if_neg h2]; rfl
theorem takeCol_ok {cs : List Bytes} {l r : Toks} {b : Bytes} (h : takeCol cs l = .ok (b, r)) : ∃ p, l = ⟨p, .name b⟩ :: r ∧ RESERVED.contains b = false ∧ cs.length < 4 ∧ cs.contains b = false := by
  unfold takeCol at h
  cases e : takeName l with
  | error f => rw [e] at h; cases h
  | ok x =>
    rw [e] at h
    have h : (if COLUMNS ≤ cs.length then Except.error (⟨4, x.1.place⟩ : Fault) else if cs.contains x.1.name = true then .error ⟨5, x.1.place⟩ else .ok (x.1.name, x.2)) = .ok (b, r) := h
    split at h
    · cases h
    · split at h
      · cases h
      · rename_i h1 h2
        cases h
        obtain ⟨e1, e2⟩ := takeName_ok e
        exact ⟨_, e1, e2, by unfold COLUMNS at h1; omega, by simpa using h2⟩
theorem takeColumns_fuel : ∀ (m : Nat) (l : Toks), l.length ≤ m → ∀ (n n' : Nat) (cs : List Bytes), l.length < n → l.length < n' → takeColumns n cs l = takeColumns n' cs l
  | m, l, h, 0, _, _, hn, _ => absurd hn (Nat.not_lt_zero _)
  | m, l, h, _, 0, _, _, hn => absurd hn (Nat.not_lt_zero _)
  | m, l, h, n + 1, n' + 1, cs, hn, hn' => by
    rw [takeColumns_succ, takeColumns_succ]
    cases e : takeCol cs l with
    | error f => rfl
    | ok x =>
      obtain ⟨p, e1, _⟩ := takeCol_ok e
      show takeColsC n _ x.2 = takeColsC n' _ x.2
      unfold takeColsC
      by_cases hc : VamvsBase.next (.sign 44) x.2 = true
      · rw [if_pos hc, if_pos hc]
        have h1 := next_len hc
        have h2 : x.2.length < l.length := by rw [e1]; exact Nat.lt_succ_self _
        cases m with
        | zero => omega
        | succ m => exact takeColumns_fuel m _ (by omega) n n' _ (by omega) (by omega)
      · rw [if_neg hc, if_neg hc]
theorem takeColsC_fuel {l : Toks} {n n' : Nat} (cs : List Bytes) (h : l.length < n) (h' : l.length < n') : takeColsC n cs l = takeColsC n' cs l := by
  unfold takeColsC
  by_cases hc : VamvsBase.next (.sign 44) l = true
  · rw [if_pos hc, if_pos hc]
    have := next_len hc
    exact takeColumns_fuel _ _ (Nat.le_refl _) _ _ _ (by omega) (by omega)
  · rw [if_neg hc, if_neg hc]
/-! ### a question's columns -/
def takeGrp (cs : List Bytes) (g : Nat) (l : Toks) : Except Fault (Nat × Toks) := (takeName l).bind fun x => match cs.findIdx? fun c => c == x.1.name with
    | none => .error ⟨8, x.1.place⟩
    | some i => if g / 2 ^ i % 2 = 1 then .error ⟨6, x.1.place⟩ else .ok (g + 2 ^ i, x.2)
def takeGrpC (cs : List Bytes) (n : Nat) (g : Nat) (l : Toks) : Except Fault (Nat × Toks) := if VamvsBase.next (.sign 44) l = true then takeAsked cs n g (l.drop 1) else .ok (g, l)
theorem takeAsked_succ (cs : List Bytes) (n g : Nat) (l : Toks) : takeAsked cs (n + 1) g l = (takeGrp cs g l).bind fun x => takeGrpC cs n x.1 x.2 := by
  unfold takeAsked takeGrp takeGrpC
  cases takeName l with
  | error f => rfl
  | ok x =>
    simp only [Except.bind]
    cases cs.findIdx? fun c => c == x.1.name with
    | none => rfl
    | some i =>
      by_cases h1 : g / 2 ^ i % 2 = 1
      · simp only [h1, if_true]
      · simp only [h1, if_false]
theorem takeGrp_ok {cs : List Bytes} {g g' : Nat} {l r : Toks} (h : takeGrp cs g l = .ok (g', r)) : ∃ p b i, l = ⟨p, .name b⟩ :: r ∧ RESERVED.contains b = false ∧ (cs.findIdx? fun c => c == b) = some i ∧ ¬ g / 2 ^ i % 2 = 1 ∧ g' = g + 2 ^ i := by
  unfold takeGrp at h
  cases e : takeName l with
  | error f => rw [e] at h; cases h
  | ok x =>
    rw [e] at h
    obtain ⟨e1, e2⟩ := takeName_ok e
    have h : (match cs.findIdx? fun c => c == x.1.name with
      | none => Except.error (⟨8, x.1.place⟩ : Fault)
      | some i => if g / 2 ^ i % 2 = 1 then .error ⟨6, x.1.place⟩ else .ok (g + 2 ^ i, x.2)) = .ok (g', r) := h
    cases ei : cs.findIdx? fun c => c == x.1.name with
    | none => rw [ei] at h; cases h
    | some i =>
      rw [ei] at h
      have h : (if g / 2 ^ i % 2 = 1 then Except.error (⟨6, x.1.place⟩ : Fault) else .ok (g + 2 ^ i, x.2)) = .ok (g', r) := h
      split at h
      · cases h
      · rename_i h1
        cases h
        exact ⟨_, _, i, e1, e2, ei, h1, rfl⟩
theorem takeAsked_fuel (cs : List Bytes) : ∀ (m : Nat) (l : Toks), l.length ≤ m → ∀ (n n' g : Nat), l.length < n → l.length < n' → takeAsked cs n g l = takeAsked cs n' g l
  | m, l, h, 0, _, _, hn, _ => absurd hn (Nat.not_lt_zero _)
  | m, l, h, _, 0, _, _, hn => absurd hn (Nat.not_lt_zero _)
  | m, l, h, n + 1, n' + 1, g, hn, hn' => by
    rw [takeAsked_succ, takeAsked_succ]
    cases e : takeGrp cs g l with
    | error f => rfl
    | ok x =>
      obtain ⟨p, b, i, e1, _⟩ := takeGrp_ok e
      show takeGrpC cs n _ x.2 = takeGrpC cs n' _ x.2
      unfold takeGrpC
      by_cases hc : VamvsBase.next (.sign 44) x.2 = true
      · rw [if_pos hc, if_pos hc]
        have h1 := next_len hc
        have h2 : x.2.length < l.length := by rw [e1]; exact Nat.lt_succ_self _
        cases m with
        | zero => omega
        | succ m => exact takeAsked_fuel cs m _ (by omega) n n' _ (by omega) (by omega)
      · rw [if_neg hc, if_neg hc]
theorem takeGrpC_fuel {cs : List Bytes} {l : Toks} {n n' : Nat} (g : Nat) (h : l.length < n) (h' : l.length < n') : takeGrpC cs n g l = takeGrpC cs n' g l := by
  unfold takeGrpC
  by_cases hc : VamvsBase.next (.sign 44) l = true
  · rw [if_pos hc, if_pos hc]
    have := next_len hc
    exact takeAsked_fuel cs _ _ (Nat.le_refl _) _ _ _ (by omega) (by omega)
  · rw [if_neg hc, if_neg hc]
theorem takeAsked_len (cs : List Bytes) : ∀ (n g : Nat) (l : Toks) (x : Nat × Toks), takeAsked cs n g l = .ok x → x.2.length < l.length
  | 0, _, _, _, h => by cases h
  | n + 1, g, l, x, h => by
    rw [takeAsked_succ] at h
    cases e : takeGrp cs g l with
    | error f => rw [e] at h; cases h
    | ok y =>
      rw [e] at h
      obtain ⟨p, b, i, e1, _⟩ := takeGrp_ok e
      have h2 : y.2.length < l.length := by rw [e1]; exact Nat.lt_succ_self _
      have h : takeGrpC cs n y.1 y.2 = .ok x := h
      unfold takeGrpC at h
      by_cases hc : VamvsBase.next (.sign 44) y.2 = true
      · rw [if_pos hc] at h
        have h1 := next_len hc
        have := takeAsked_len cs n _ _ _ h
        omega
      · rw [if_neg hc] at h
        cases h
        exact h2
/-! ### rows, questions -/
def rowOf (t : Table) (l : Toks) : Except Fault (Row × Toks) := if ROWS ≤ t.rows.length then .error ⟨4, here l⟩ else (takeValues t.cols.length [] (l.drop 1)).bind fun v => (takeSign 58 v.2).bind fun r => (takeInt r).bind fun x => (takeSign 59 x.2).map fun m => (⟨v.1, x.1⟩, m)
def askOf (t : Table) (l : Toks) : Except Fault (Ask × Toks) := (takeWord "ask" l).bind fun r => if ASKS ≤ t.asks.length then .error ⟨4, here l⟩ else takeAsk t.cols r
theorem takeLines_succ (n : Nat) (t : Table) (l : Toks) : takeLines (n + 1) t l = if VamvsBase.next .last l = true then .ok t else if nextWord "row" l = true then (rowOf t l).bind fun x => takeLines n { t with rows := t.rows ++ [x.1] } x.2
    else (askOf t l).bind fun x => takeLines n { t with asks := t.asks ++ [x.1] } x.2 := by
  rw [takeLines]
  by_cases h1 : VamvsBase.next .last l = true
  · rw [if_pos h1, if_pos h1]
  · rw [if_neg h1, if_neg h1]
    by_cases h2 : nextWord "row" l = true
    · rw [if_pos h2, if_pos h2]
      unfold rowOf
      by_cases h3 : ROWS ≤ t.rows.length
      · rw [if_pos h3, if_pos h3]; rfl
      · rw [if_neg h3, if_neg h3]
        cases takeValues t.cols.length [] (l.drop 1) with
        | error f => rfl
        | ok v =>
          show Except.bind (takeSign 58 v.2) _ = Except.bind (Except.bind (takeSign 58 v.2) _) _
          cases takeSign 58 v.2 with
          | error f => rfl
          | ok r =>
            show Except.bind (takeInt r) _ = Except.bind (Except.bind (takeInt r) _) _
            cases takeInt r with
            | error f => rfl
            | ok x =>
              show Except.bind (takeSign 59 x.2) _ = Except.bind (Except.map _ (takeSign 59 x.2)) _
              cases takeSign 59 x.2 <;> rfl
    · rw [if_neg h2, if_neg h2]
      unfold askOf
      cases takeWord "ask" l with
      | error f => rfl
      | ok r =>
        show (if _ then _ else _) = Except.bind (if _ then _ else _) _
        by_cases h3 : ASKS ≤ t.asks.length
        · rw [if_pos h3, if_pos h3]; rfl
        · rw [if_neg h3, if_neg h3]
theorem takeValues_ok : ∀ (n : Nat) (vs : List Nat) (l : Toks) (x : List Nat × Toks), takeValues n vs l = .ok x → x.2.length ≤ l.length ∧ x.1.length = vs.length + n ∧ ((∀ v ∈ vs, v ≤ 9) → ∀ v ∈ x.1, v ≤ 9)
  | 0, vs, l, x, h => by
    cases h
    exact ⟨Nat.le_refl _, rfl, fun h => h⟩
  | n + 1, vs, l, x, h => by
    rw [takeValues] at h
    obtain ⟨r, hr, h⟩ : ∃ r, r.length ≤ l.length ∧ (takeNat VALUE r).bind (fun x => takeValues n (vs ++ [x.1]) x.2) = .ok x := by
      by_cases hv : vs.isEmpty = true
      · rw [if_pos hv] at h
        exact ⟨l, Nat.le_refl _, h⟩
      · rw [if_neg hv] at h
        cases e : takeSign 44 l with
        | error f => rw [e] at h; cases h
        | ok r =>
          rw [e] at h
          obtain ⟨e1, rfl⟩ := taken_ok e
          exact ⟨_, Nat.le_of_lt (next_len e1), h⟩
    cases e : takeNat VALUE r with
    | error f => rw [e] at h; cases h
    | ok y =>
      rw [e] at h
      have h : takeValues n (vs ++ [y.1]) y.2 = .ok x := h
      rw [takeNat_eq] at e
      obtain ⟨p, e1, e2, e3⟩ := takeNum_ok e
      obtain ⟨k1, k2, k3⟩ := takeValues_ok n _ _ _ h
      have hl := congrArg List.length e1
      rw [List.length_cons] at hl
      refine ⟨by omega, by rw [k2, List.length_append, List.length_singleton]; omega, fun hb => k3 fun v hv => ?_⟩
      rcases List.mem_append.mp hv with hv | hv
      · exact hb v hv
      · have : v = y.1 := by simpa using hv
        rw [this]
        exact e3
theorem takeInt_ok {l : Toks} {x : Int × Toks} (h : takeInt l = .ok x) : x.2.length < l.length ∧ x.1.natAbs ≤ 1000 := by
  unfold takeInt at h
  cases hn : VamvsBase.next (.sign 45) l with
  | true =>
    rw [hn] at h
    have h : (takeNat SIZE (l.drop 1)).map (fun x => (-(x.1 : Int), x.2)) = .ok x := h
    cases e : takeNat SIZE (l.drop 1) with
    | error f => rw [e] at h; cases h
    | ok y =>
      rw [e] at h
      cases h
      rw [takeNat_eq] at e
      obtain ⟨p, e1, e2, e3⟩ := takeNum_ok e
      have hl := congrArg List.length e1
      rw [List.length_cons] at hl
      have := next_len hn
      exact ⟨by show y.2.length < _; omega, by show (-(y.1 : Int)).natAbs ≤ 1000; have : y.1 ≤ 1000 := e3; omega⟩
  | false =>
    rw [hn] at h
    have h : (takeNat SIZE l).map (fun x => ((x.1 : Int), x.2)) = .ok x := h
    cases e : takeNat SIZE l with
    | error f => rw [e] at h; cases h
    | ok y =>
      rw [e] at h
      cases h
      rw [takeNat_eq] at e
      obtain ⟨p, e1, e2, e3⟩ := takeNum_ok e
      have hl := congrArg List.length e1
      rw [List.length_cons] at hl
      exact ⟨by show y.2.length < _; omega, by show ((y.1 : Int)).natAbs ≤ 1000; have : y.1 ≤ 1000 := e3; omega⟩
theorem rowOf_ok {t : Table} {l : Toks} {x : Row × Toks} (h : rowOf t l = .ok x) : x.2.length < l.length ∧ t.rows.length < 16 ∧ x.1.vs.length = t.cols.length ∧ (∀ v ∈ x.1.vs, v ≤ 9) ∧ x.1.m.natAbs ≤ 1000 := by
  unfold rowOf at h
  split at h
  · cases h
  · rename_i h0
    cases e1 : takeValues t.cols.length [] (l.drop 1) with
    | error f => rw [e1] at h; cases h
    | ok v =>
      rw [e1] at h
      have h : (takeSign 58 v.2).bind (fun r => (takeInt r).bind fun x => (takeSign 59 x.2).map fun m => ((⟨v.1, x.1⟩ : Row), m)) = .ok x := h
      cases e2 : takeSign 58 v.2 with
      | error f => rw [e2] at h; cases h
      | ok r =>
        rw [e2] at h
        have h : (takeInt r).bind (fun x => (takeSign 59 x.2).map fun m => ((⟨v.1, x.1⟩ : Row), m)) = .ok x := h
        cases e3 : takeInt r with
        | error f => rw [e3] at h; cases h
        | ok y =>
          rw [e3] at h
          have h : (takeSign 59 y.2).map (fun m => ((⟨v.1, y.1⟩ : Row), m)) = .ok x := h
          cases e4 : takeSign 59 y.2 with
          | error f => rw [e4] at h; cases h
          | ok m =>
            rw [e4] at h
            cases h
            obtain ⟨k1, k2, k3⟩ := takeValues_ok _ _ _ _ e1
            obtain ⟨n1, rfl⟩ := taken_ok e2
            obtain ⟨n2, rfl⟩ := taken_ok e4
            have l1 := next_len n1
            have l2 := next_len n2
            obtain ⟨j1, j2⟩ := takeInt_ok e3
            refine ⟨?_, by unfold ROWS at h0; omega, by show v.1.length = _; rw [k2]; simp, k3 (by simp), j2⟩
            show (y.2.drop 1).length < _
            have : (l.drop 1).length ≤ l.length := by simp
            omega
theorem takeTimes_ok {l : Toks} {x : Nat × Toks} (h : takeTimes l = .ok x) : x.2.length ≤ l.length ∧ 1 ≤ x.1 ∧ x.1 ≤ 99 := by
  unfold takeTimes at h
  by_cases hn : nextWord "times" l = true
  · rw [if_pos hn] at h
    have h1 := next_len hn
    split at h
    · rename_i q n r hd
      split at h
      · cases h
      · rename_i hc
        cases h
        have hl := congrArg List.length hd
        rw [List.length_cons] at hl
        unfold TIMES at hc
        exact ⟨by show r.length ≤ _; omega, by show 1 ≤ n; omega, by show n ≤ 99; omega⟩
    · cases h
  · rw [if_neg hn] at h
    cases h
    exact ⟨Nat.le_refl _, Nat.le_refl _, (by decide : 1 ≤ 99)⟩
/-- what takeTimes is, by takeNum -/
theorem takeTimes_eq (l : Toks) : takeTimes l = if nextWord "times" l = true then takeNum 1 99 (l.drop 1) else .ok (1, l) := by
  unfold takeTimes takeNum
  rfl
def takeAskG (cs : List Bytes) (l : Toks) : Except Fault (Nat × Toks) := if nextWord "times" l = true ∨ VamvsBase.next (.sign 59) l = true then .ok (0, l) else takeAsked cs (l.length + 1) 0 l
theorem takeAskG_len {cs : List Bytes} {l : Toks} {x : Nat × Toks} (h : takeAskG cs l = .ok x) : x.2.length ≤ l.length := by
  unfold takeAskG at h
  split at h
  · cases h
    exact Nat.le_refl _
  · exact Nat.le_of_lt (takeAsked_len cs _ _ _ _ h)
theorem takeAsk_ok {cs : List Bytes} {l : Toks} {x : Ask × Toks} (h : takeAsk cs l = .ok x) : x.2.length < l.length ∧ 1 ≤ x.1.k ∧ x.1.k ≤ 99 ∧ ∃ y, takeAskG cs l = .ok y ∧ y.1 = x.1.g := by
  have h : (takeAskG cs l).bind (fun g => (takeTimes g.2).bind fun k => (takeSign 59 k.2).map fun m => ((⟨g.1, k.1⟩ : Ask), m)) = .ok x := h
  cases e1 : takeAskG cs l with
  | error f => rw [e1] at h; cases h
  | ok y =>
    rw [e1] at h
    have h : (takeTimes y.2).bind (fun k => (takeSign 59 k.2).map fun m => ((⟨y.1, k.1⟩ : Ask), m)) = .ok x := h
    cases e2 : takeTimes y.2 with
    | error f => rw [e2] at h; cases h
    | ok k =>
      rw [e2] at h
      have h : (takeSign 59 k.2).map (fun m => ((⟨y.1, k.1⟩ : Ask), m)) = .ok x := h
      cases e3 : takeSign 59 k.2 with
      | error f => rw [e3] at h; cases h
      | ok m =>
        rw [e3] at h
        cases h
        have l1 := takeAskG_len e1
        obtain ⟨l2, l3, l4⟩ := takeTimes_ok e2
        obtain ⟨n1, rfl⟩ := taken_ok e3
        have l5 := next_len n1
        exact ⟨by show (k.2.drop 1).length < _; omega, l3, l4, y, rfl, rfl⟩
theorem askOf_ok {t : Table} {l : Toks} {x : Ask × Toks} (h : askOf t l = .ok x) : x.2.length < l.length ∧ t.asks.length < 8 ∧ 1 ≤ x.1.k ∧ x.1.k ≤ 99 ∧ ∃ y, takeAskG t.cols (l.drop 1) = .ok y ∧ y.1 = x.1.g := by
  unfold askOf at h
  cases e1 : takeWord "ask" l with
  | error f => rw [e1] at h; cases h
  | ok r =>
    rw [e1] at h
    have h : (if ASKS ≤ t.asks.length then Except.error (⟨4, here l⟩ : Fault) else takeAsk t.cols r) = .ok x := h
    obtain ⟨n1, rfl⟩ := taken_ok e1
    have l1 := next_len n1
    split at h
    · cases h
    · rename_i h0
      obtain ⟨k1, k2, k3, k4⟩ := takeAsk_ok h
      exact ⟨by omega, by unfold ASKS at h0; omega, k2, k3, k4⟩
theorem takeLines_fuel : ∀ (m : Nat) (l : Toks), l.length ≤ m → ∀ (n n' : Nat) (t : Table), l.length < n → l.length < n' → takeLines n t l = takeLines n' t l
  | m, l, h, 0, _, _, hn, _ => absurd hn (Nat.not_lt_zero _)
  | m, l, h, _, 0, _, _, hn => absurd hn (Nat.not_lt_zero _)
  | m, l, h, n + 1, n' + 1, t, hn, hn' => by
    rw [takeLines_succ, takeLines_succ]
    by_cases h1 : VamvsBase.next .last l = true
    · rw [if_pos h1, if_pos h1]
    · rw [if_neg h1, if_neg h1]
      by_cases h2 : nextWord "row" l = true
      · rw [if_pos h2, if_pos h2]
        cases e : rowOf t l with
        | error f => rfl
        | ok x =>
          have hl := (rowOf_ok e).1
          cases m with
          | zero => omega
          | succ m => exact takeLines_fuel m _ (by omega) n n' _ (by omega) (by omega)
      · rw [if_neg h2, if_neg h2]
        cases e : askOf t l with
        | error f => rfl
        | ok x =>
          have hl := (askOf_ok e).1
          cases m with
          | zero => omega
          | succ m => exact takeLines_fuel m _ (by omega) n n' _ (by omega) (by omega)
end BA

/-! pure: what a table that was read is like -/
namespace BA
open VamvsBase Vamvsa

theorem bit_add {gr i n : Nat} (hn : n ≤ 4) (hg : gr < 2 ^ n) (hi : i < n) (h : ¬ gr / 2 ^ i % 2 = 1) : gr + 2 ^ i < 2 ^ n := by
  have : ∀ (n : Fin 5) (gr : Fin 16) (i : Fin 4), gr.1 < 2 ^ n.1 → i.1 < n.1 → ¬ gr.1 / 2 ^ i.1 % 2 = 1 → gr.1 + 2 ^ i.1 < 2 ^ n.1 := by decide +kernel
  have h16 : gr < 16 := Nat.lt_of_lt_of_le hg (by
    calc 2 ^ n ≤ 2 ^ 4 := Nat.pow_le_pow_right (by decide) hn
      _ = 16 := rfl)
  exact this ⟨n, by omega⟩ ⟨gr, h16⟩ ⟨i, by omega⟩ hg hi h
theorem pow_le16 {n : Nat} (hn : n ≤ 4) : 2 ^ n ≤ 16 := by
  calc 2 ^ n ≤ 2 ^ 4 := Nat.pow_le_pow_right (by decide) hn
    _ = 16 := rfl
theorem find_first {cs : List Bytes} {b : Bytes} {i : Nat} (h : (cs.findIdx? fun c => c == b) = some i) : cs[i]? = some b ∧ ∀ m c, m < i → cs[m]? = some c → c ≠ b := by
  rw [List.findIdx?_eq_some_iff_getElem] at h
  obtain ⟨h1, h2, h3⟩ := h
  refine ⟨?_, fun m c hm hc e => ?_⟩
  · rw [List.getElem?_eq_getElem h1]
    congr 1
    simpa using h2
  · have := h3 m hm
    have hml : m < cs.length := by omega
    rw [List.getElem?_eq_getElem hml] at hc
    have hc := Option.some.inj hc
    rw [hc, e] at this
    simp at this
theorem find_none {cs : List Bytes} {b : Bytes} : (cs.findIdx? fun c => c == b) = none ↔ cs.contains b = false := by
  rw [List.findIdx?_eq_none_iff]
  constructor
  · intro h
    rw [Bool.eq_false_iff]
    intro hc
    have := h b (List.contains_iff_mem.mp hc)
    simp at this
  · intro h x hx
    rw [beq_eq_false_iff_ne]
    rintro rfl
    rw [List.contains_iff_mem.mpr hx] at h
    cases h
theorem pow2_lt {n g : Nat} (hn : n ≤ 4) (h : g < 2 ^ n) : g < 16 := Nat.lt_of_lt_of_le h (pow_le16 hn)
theorem grp_lt {cs : List Bytes} {g g' : Nat} {l r : Toks} (h4 : cs.length ≤ 4) (hg : g < 2 ^ cs.length) (h : takeGrp cs g l = .ok (g', r)) : g' < 2 ^ cs.length := by
  obtain ⟨p, b, i, _, _, e, hb, rfl⟩ := takeGrp_ok h
  exact bit_add h4 hg (List.getElem?_eq_some_iff.mp (find_first e).1).1 hb

structure Wf (t : Table) : Prop where
  c1 : 1 ≤ t.cols.length
  c4 : t.cols.length ≤ 4
  cn : ∀ c ∈ t.cols, c.length ≤ 16
  r16 : t.rows.length ≤ 16
  rw : ∀ r ∈ t.rows, r.vs.length = t.cols.length ∧ (∀ v ∈ r.vs, v ≤ 9) ∧ r.m.natAbs ≤ 1000
  a8 : t.asks.length ≤ 8
  aw : ∀ x ∈ t.asks, x.g < 2 ^ t.cols.length ∧ 1 ≤ x.k ∧ x.k ≤ 99
def AllN (l : Toks) : Prop := ∀ x ∈ l, ∀ b, x.tok = .name b → b.length ≤ 16
theorem lex_names : ∀ (n at_ : Nat) (l : Bytes) (ts : Toks), lex n at_ l = .ok ts → AllN ts
  | 0, at_, l, ts, h => by
    cases h
    intro x hx b hb
    have : x = ⟨at_, .last⟩ := by simpa using hx
    rw [this] at hb
    cases hb
  | n + 1, at_, [], ts, h => by
    cases h
    intro x hx b hb
    have : x = ⟨at_, .last⟩ := by simpa using hx
    rw [this] at hb
    cases hb
  | n + 1, at_, b :: r, ts, h => by
    rw [lex] at h
    split at h
    · exact lex_names _ _ _ _ h
    · split at h
      · exact lex_names _ _ _ _ h
      · cases e : token (b :: r) with
        | none => rw [e] at h; cases h
        | some x =>
          rw [e] at h
          have h : (lex n (at_ + x.2) ((b :: r).drop x.2)).map (fun l => (⟨at_, x.1⟩ : PTok) :: l) = .ok ts := h
          cases e2 : lex n (at_ + x.2) ((b :: r).drop x.2) with
          | error f => rw [e2] at h; cases h
          | ok ts' =>
            rw [e2] at h
            cases h
            intro y hy b' hb'
            rcases List.mem_cons.mp hy with rfl | hy
            · have hb' : x.1 = .name b' := hb'
              unfold token at e
              simp only at e
              split at e
              · split at e
                · cases e
                · rename_i hlen
                  cases e
                  cases hb'
                  unfold NAME at hlen
                  omega
              · split at e
                · cases e3 : numberOf (List.takeWhile isDigit (b :: r)) with
                  | none => rw [e3] at e; cases e
                  | some k => rw [e3] at e; cases e; cases hb'
                · split at e
                  · cases e; cases hb'
                  · cases e
            · exact lex_names _ _ _ _ e2 y hy b' hb'
theorem AllN.tail {x : PTok} {l : Toks} (h : AllN (x :: l)) : AllN l := fun y hy => h y (List.mem_cons_of_mem _ hy)
theorem AllN.drop {l : Toks} (h : AllN l) : AllN (l.drop 1) := fun y hy => h y (List.mem_of_mem_drop hy)
theorem cols_wf : ∀ (n : Nat) (cs : List Bytes) (l : Toks) (x : List Bytes × Toks), takeColumns n cs l = .ok x → AllN l → (∀ c ∈ cs, c.length ≤ 16) → 1 ≤ x.1.length ∧ x.1.length ≤ 4 ∧ ∀ c ∈ x.1, c.length ≤ 16
  | 0, _, _, _, h, _, _ => by cases h
  | n + 1, cs, l, x, h, hl, hc => by
    rw [takeColumns_succ] at h
    cases e : takeCol cs l with
    | error f => rw [e] at h; cases h
    | ok y =>
      rw [e] at h
      obtain ⟨p, e1, _, e2, _⟩ := takeCol_ok e
      have hl2 : AllN y.2 := by rw [e1] at hl; exact hl.tail
      have hy : y.1.length ≤ 16 := hl _ (by rw [e1]; exact List.mem_cons_self) _ rfl
      have hc2 : ∀ c ∈ cs ++ [y.1], c.length ≤ 16 := fun c hm => by
        rcases List.mem_append.mp hm with hm | hm
        · exact hc c hm
        · have : c = y.1 := by simpa using hm
          rw [this]
          exact hy
      have h : takeColsC n (cs ++ [y.1]) y.2 = .ok x := h
      unfold takeColsC at h
      by_cases hn : VamvsBase.next (.sign 44) y.2 = true
      · rw [if_pos hn] at h
        exact cols_wf n _ _ _ h hl2.drop hc2
      · rw [if_neg hn] at h
        cases e3 : takeSign 59 y.2 with
        | error f => rw [e3] at h; cases h
        | ok m =>
          rw [e3] at h
          cases h
          exact ⟨by show 1 ≤ (cs ++ [y.1]).length; rw [List.length_append, List.length_singleton]; omega, by show (cs ++ [y.1]).length ≤ 4; rw [List.length_append, List.length_singleton]; omega, hc2⟩
theorem asked_lt {cs : List Bytes} (h4 : cs.length ≤ 4) : ∀ (n g : Nat) (l : Toks) (x : Nat × Toks), g < 2 ^ cs.length → takeAsked cs n g l = .ok x → x.1 < 2 ^ cs.length
  | 0, _, _, _, _, h => by cases h
  | n + 1, g, l, x, hg, h => by
    rw [takeAsked_succ] at h
    cases e : takeGrp cs g l with
    | error f => rw [e] at h; cases h
    | ok y =>
      rw [e] at h
      have h : takeGrpC cs n y.1 y.2 = .ok x := h
      have hy := grp_lt h4 hg e
      unfold takeGrpC at h
      by_cases hn : VamvsBase.next (.sign 44) y.2 = true
      · rw [if_pos hn] at h
        exact asked_lt h4 n _ _ _ hy h
      · rw [if_neg hn] at h
        cases h
        exact hy
theorem askG_lt {cs : List Bytes} {l : Toks} {x : Nat × Toks} (h4 : cs.length ≤ 4) (h : takeAskG cs l = .ok x) : x.1 < 2 ^ cs.length := by
  unfold takeAskG at h
  split at h
  · cases h
    exact Nat.two_pow_pos _
  · exact asked_lt h4 _ _ _ _ (Nat.two_pow_pos _) h
theorem lines_wf : ∀ (n : Nat) (t t' : Table) (l : Toks), takeLines n t l = .ok t' → Wf t → Wf t'
  | 0, _, _, _, h, _ => by cases h
  | n + 1, t, t', l, h, wf => by
    rw [takeLines_succ] at h
    split at h
    · cases h
      exact wf
    · split at h
      · cases e : rowOf t l with
        | error f => rw [e] at h; cases h
        | ok x =>
          rw [e] at h
          obtain ⟨_, k1, k2, k3, k4⟩ := rowOf_ok e
          refine lines_wf n _ _ _ h ⟨wf.c1, wf.c4, wf.cn, ?_, fun r hr => ?_, wf.a8, wf.aw⟩
          · show (t.rows ++ [x.1]).length ≤ 16
            rw [List.length_append, List.length_singleton]
            omega
          · rcases List.mem_append.mp hr with hr | hr
            · exact wf.rw r hr
            · have : r = x.1 := by simpa using hr
              rw [this]
              exact ⟨k2, k3, k4⟩
      · cases e : askOf t l with
        | error f => rw [e] at h; cases h
        | ok x =>
          rw [e] at h
          obtain ⟨_, k1, k2, k3, y, k4, k5⟩ := askOf_ok e
          refine lines_wf n _ _ _ h ⟨wf.c1, wf.c4, wf.cn, wf.r16, wf.rw, ?_, fun r hr => ?_⟩
          · show (t.asks ++ [x.1]).length ≤ 8
            rw [List.length_append, List.length_singleton]
            omega
          · rcases List.mem_append.mp hr with hr | hr
            · exact wf.aw r hr
            · have : r = x.1 := by simpa using hr
              rw [this]
              exact ⟨by rw [← k5]; exact askG_lt wf.c4 k4, k2, k3⟩
theorem read_wf {b : Bytes} {t : Table} (h : Vamvsa.read b = .ok t) : Wf t := by
  unfold Vamvsa.read tokens at h
  split at h
  · cases h
  · cases e1 : lex (b.length + 1) 0 b with
    | error f => rw [e1] at h; cases h
    | ok l =>
      rw [e1] at h
      have hn := lex_names _ _ _ _ e1
      have h : (takeWord "columns" l).bind (fun r => (takeColumns (r.length + 1) [] r).bind fun x => takeLines (x.2.length + 1) ⟨x.1, [], []⟩ x.2) = .ok t := h
      cases e2 : takeWord "columns" l with
      | error f => rw [e2] at h; cases h
      | ok r =>
        rw [e2] at h
        have h : (takeColumns (r.length + 1) [] r).bind (fun x => takeLines (x.2.length + 1) ⟨x.1, [], []⟩ x.2) = .ok t := h
        obtain ⟨_, rfl⟩ := taken_ok e2
        cases e3 : takeColumns ((l.drop 1).length + 1) [] (l.drop 1) with
        | error f => rw [e3] at h; cases h
        | ok x =>
          rw [e3] at h
          obtain ⟨k1, k2, k3⟩ := cols_wf _ _ _ _ e3 hn.drop (by simp)
          exact lines_wf _ _ _ _ h ⟨k1, k2, k3, Nat.zero_le _, by simp, Nat.zero_le _, by simp⟩
end BA

/-! pure: how a table is shown -/
namespace BA
open VamvsBase Vamvsa
def comma : Bytes := word ", "
theorem joined_snoc (x : Bytes) : ∀ ls : List Bytes, joined comma (ls ++ [x]) = if ls = [] then x else joined comma ls ++ (comma ++ x)
  | [] => rfl
  | [a] => by simp [joined]
  | a :: b :: r => by
    have ih := joined_snoc x (b :: r)
    rw [if_neg (by simp)] at ih
    rw [if_neg (by simp)]
    show a ++ comma ++ joined comma (b :: r ++ [x]) = a ++ comma ++ joined comma (b :: r) ++ (comma ++ x)
    rw [ih]
    simp
theorem joined_len : ∀ ls : List Bytes, (∀ b ∈ ls, b.length ≤ 16) → (joined comma ls).length ≤ 18 * ls.length
  | [], _ => Nat.zero_le _
  | [a], h => by
    have := h a (by simp)
    simp [joined]
    omega
  | a :: b :: r, h => by
    have ih := joined_len (b :: r) fun c hc => h c (List.mem_cons_of_mem _ hc)
    have ha := h a (by simp)
    have hc : comma.length = 2 := by decide +kernel
    show (a ++ comma ++ joined comma (b :: r)).length ≤ _
    rw [List.length_append, List.length_append, hc]
    simp only [List.length_cons] at ih ⊢
    omega
def lineB (bz : Bytes) (ls : List Bytes) (b2 : Bytes) : Bytes := bz ++ (if ls = [] then [] else 32 :: joined comma ls) ++ (b2 ++ (word " ;" ++ [10]))
theorem lineB_cols (t : Table) (h : t.cols ≠ []) : lineB (word "columns") t.cols [] = line (word "columns " ++ (commas t.cols ++ word " ;")) := by
  unfold lineB line commas
  rw [if_neg h]
  have e : word "columns " = word "columns" ++ [32] := by decide +kernel
  rw [e]
  show _ = _ ++ (joined comma t.cols ++ _) ++ _
  simp
theorem lineB_row (r : Row) (h : r.vs ≠ []) : lineB (word "row") (r.vs.map showNat) (word " : " ++ showInt r.m) = showRow r := by
  unfold lineB showRow line commas
  rw [if_neg (by simpa using h)]
  have e : word "row " = word "row" ++ [32] := by decide +kernel
  rw [e]
  show _ = _ ++ (joined comma _ ++ _) ++ _
  simp
theorem lineB_ask (cs : List Bytes) (x : Ask) (hc : cs.length ≤ 4) (hg : x.g < 2 ^ cs.length) : lineB (word "ask") ((columnsOf cs.length x.g).map fun i => cs.getD i []) (if x.k = 1 then [] else word " times " ++ showNat x.k) = showAsk cs x := by
  have key : ∀ (n : Fin 5) (g : Fin 16), g.1 < 2 ^ n.1 → (columnsOf n.1 g.1 = [] ↔ g.1 = 0) := by decide +kernel
  have h16 : x.g < 16 := Nat.lt_of_lt_of_le hg (pow_le16 hc)
  have k2 := key ⟨cs.length, by omega⟩ ⟨x.g, h16⟩ hg
  unfold lineB showAsk line commas
  by_cases h0 : x.g = 0
  · rw [if_pos h0, if_pos (by rw [List.map_eq_nil_iff]; exact k2.mpr h0)]
    simp
  · rw [if_neg h0, if_neg (by rw [List.map_eq_nil_iff]; exact fun e => h0 (k2.mp e))]
    have e : word " " = [32] := by decide +kernel
    rw [e]
    show _ = _ ++ (([32] ++ joined comma _) ++ _) ++ _
    simp
theorem lineB_len {bz b2 : Bytes} {ls : List Bytes} (h1 : bz.length ≤ 10) (h2 : b2.length ≤ 12) (h3 : ls.length ≤ 4) (h4 : ∀ b ∈ ls, b.length ≤ 16) : (lineB bz ls b2).length ≤ 100 := by
  have := joined_len ls h4
  have e : (word " ;" ++ [10]).length = 3 := by decide +kernel
  unfold lineB
  rw [List.length_append, List.length_append, List.length_append, e]
  split
  · simp only [List.length_nil]; omega
  · simp only [List.length_cons]; omega
end BA

/-! pure: how many groups, bits of groupings, the least of some -/
namespace BA
open VamvsBase Vamvsa

/-! ### keys -/
def addKey (ks : List (List Nat)) (k : List Nat) : List (List Nat) := if k ∈ ks then ks else ks ++ [k]
theorem addKey_mem {ks : List (List Nat)} {k x : List Nat} : x ∈ addKey ks k ↔ x ∈ ks ∨ x = k := by
  unfold addKey
  split
  · constructor
    · exact .inl
    · rintro (h | rfl)
      · exact h
      · assumption
  · simp
theorem addKey_nodup {ks : List (List Nat)} {k : List Nat} (h : ks.Nodup) : (addKey ks k).Nodup := by
  unfold addKey
  split
  · exact h
  · rename_i hk
    rw [List.nodup_append]
    refine ⟨h, by simp, fun a ha b hb => ?_⟩
    have : b = k := by simpa using hb
    rintro rfl
    exact hk (this ▸ ha)
theorem lex_irrefl : ∀ l : List Nat, lexLess l l = false
  | [] => rfl
  | a :: r => by simp [lexLess, lex_irrefl r]
theorem lex_trans : ∀ {a b c : List Nat}, lexLess a b = true → lexLess b c = true → lexLess a c = true
  | [], _, _, h, _ => by cases h
  | _ :: _, [], _, h, _ => by cases h
  | _ :: _, _ :: _, [], _, h => by cases h
  | x :: a, y :: b, z :: c, h1, h2 => by
    simp only [lexLess, Bool.or_eq_true, decide_eq_true_eq, Bool.and_eq_true, beq_iff_eq] at h1 h2 ⊢
    rcases h1 with h1 | ⟨h1, h1'⟩
    · rcases h2 with h2 | ⟨h2, _⟩
      · exact .inl (by omega)
      · exact .inl (by omega)
    · rcases h2 with h2 | ⟨h2, h2'⟩
      · exact .inl (by omega)
      · exact .inr ⟨by omega, lex_trans h1' h2'⟩
theorem lex_total : ∀ {a b : List Nat}, a.length = b.length → lexLess a b = false → a ≠ b → lexLess b a = true
  | [], [], _, _, n => absurd rfl n
  | [], _ :: _, h, _, _ => by cases h
  | _ :: _, [], h, _, _ => by cases h
  | x :: a, y :: b, h, h1, n => by
    simp only [lexLess, Bool.or_eq_false_iff, decide_eq_false_iff_not, Bool.and_eq_false_iff, beq_eq_false_iff_ne] at h1
    simp only [lexLess, Bool.or_eq_true, decide_eq_true_eq, Bool.and_eq_true, beq_iff_eq]
    obtain ⟨h1, h2⟩ := h1
    by_cases e : x = y
    · rcases h2 with h2 | h2
      · exact absurd e h2
      · refine .inr ⟨e.symm, lex_total (by simpa using h) h2 fun z => n (by rw [e, z])⟩
    · exact .inl (by omega)
def keysOf (l : List Group) : List (List Nat) := l.map fun x => x.key
theorem put_keys (n : Nat) (x : Group) (hx : x.key.length = n) : ∀ l : List Group, (∀ y ∈ l, y.key.length = n) → (keysOf l).Pairwise (fun a b => lexLess a b = true) →
    (keysOf (putGroup x l)).Pairwise (fun a b => lexLess a b = true) ∧ (∀ k, k ∈ keysOf (putGroup x l) ↔ k = x.key ∨ k ∈ keysOf l) ∧ ∀ y ∈ putGroup x l, y.key.length = n
  | [], _, _ => ⟨by simp [putGroup, keysOf], by simp [putGroup, keysOf], by simp [putGroup, hx]⟩
  | y :: r, hl, hs => by
    have hy := hl y List.mem_cons_self
    have hr : ∀ z ∈ r, z.key.length = n := fun z hz => hl z (List.mem_cons_of_mem _ hz)
    have hs' : (y.key :: keysOf r).Pairwise (fun a b => lexLess a b = true) := hs
    rw [List.pairwise_cons] at hs'
    obtain ⟨h1, h2⟩ := hs'
    unfold putGroup
    by_cases e : x.key = y.key
    · rw [if_pos e]
      refine ⟨hs, fun k => ?_, fun z hz => ?_⟩
      · show k ∈ y.key :: keysOf r ↔ k = x.key ∨ k ∈ y.key :: keysOf r
        constructor
        · exact .inr
        · rintro (rfl | h)
          · rw [e]; exact List.mem_cons_self
          · exact h
      · rcases List.mem_cons.mp hz with rfl | hz
        · exact hy
        · exact hr z hz
    · rw [if_neg e]
      by_cases hlt : lexLess x.key y.key = true
      · rw [if_pos hlt]
        refine ⟨?_, fun k => ?_, fun z hz => ?_⟩
        · show (x.key :: y.key :: keysOf r).Pairwise _
          rw [List.pairwise_cons]
          refine ⟨fun k hk => ?_, hs⟩
          rcases List.mem_cons.mp hk with rfl | hk
          · exact hlt
          · exact lex_trans hlt (h1 k hk)
        · show k ∈ x.key :: y.key :: keysOf r ↔ k = x.key ∨ k ∈ y.key :: keysOf r
          exact List.mem_cons
        · rcases List.mem_cons.mp hz with rfl | hz
          · exact hx
          · exact hl z hz
      · rw [if_neg hlt]
        obtain ⟨k1, k2, k3⟩ := put_keys n x hx r hr h2
        refine ⟨?_, fun k => ?_, fun z hz => ?_⟩
        · show (y.key :: keysOf (putGroup x r)).Pairwise _
          rw [List.pairwise_cons]
          refine ⟨fun k hk => ?_, k1⟩
          rcases (k2 k).mp hk with rfl | hk
          · exact lex_total (hx.trans hy.symm) (by simpa using hlt) e
          · exact h1 k hk
        · show k ∈ y.key :: keysOf (putGroup x r) ↔ k = x.key ∨ k ∈ y.key :: keysOf r
          rw [List.mem_cons, List.mem_cons, k2]
          constructor
          · rintro (h | h | h)
            · exact .inr (.inl h)
            · exact .inl h
            · exact .inr (.inr h)
          · rintro (h | h | h)
            · exact .inr (.inl h)
            · exact .inl h
            · exact .inr (.inr h)
        · rcases List.mem_cons.mp hz with rfl | hz
          · exact hy
          · exact k3 z hz
theorem nodup_len {α : Type} [DecidableEq α] : ∀ {l m : List α}, l.Nodup → m.Nodup → (∀ x, x ∈ l ↔ x ∈ m) → l.length = m.length
  | [], m, _, _, h => by
    cases m with
    | nil => rfl
    | cons b r => exact absurd ((h b).mpr List.mem_cons_self) (by simp)
  | a :: l, m, h1, h2, h => by
    have ha : a ∈ m := (h a).mp List.mem_cons_self
    rw [List.nodup_cons] at h1
    have hp := List.perm_cons_erase ha
    have h3 : (a :: m.erase a).Nodup := hp.nodup h2
    rw [List.nodup_cons] at h3
    have := nodup_len (l := l) (m := m.erase a) h1.2 h3.2 fun x => by
      have hx := h x
      rw [hp.mem_iff, List.mem_cons, List.mem_cons] at hx
      constructor
      · intro hl
        rcases hx.mp (.inr hl) with e | e
        · exact absurd (e ▸ hl) h1.1
        · exact e
      · intro hm
        rcases hx.mpr (.inr hm) with e | e
        · exact absurd (e ▸ hm) h3.1
        · exact e
    rw [hp.length_eq, List.length_cons, List.length_cons, this]
theorem collect_keys (n : Nat) : ∀ (gs acc : List Group) (ks : List (List Nat)), (∀ y ∈ gs, y.key.length = n) → (∀ y ∈ acc, y.key.length = n) → (keysOf acc).Pairwise (fun a b => lexLess a b = true) → ks.Nodup → (∀ k, k ∈ keysOf acc ↔ k ∈ ks) →
    (gs.foldl (fun r x => putGroup x r) acc).length = (gs.foldl (fun r x => addKey r x.key) ks).length
  | [], acc, ks, _, _, hs, hn, hm => by
    have h1 : (keysOf acc).Nodup := hs.imp fun {a b} h e => by rw [e, lex_irrefl] at h; cases h
    have := nodup_len h1 hn hm
    unfold keysOf at this
    rw [List.length_map] at this
    exact this
  | x :: gs, acc, ks, hg, ha, hs, hn, hm => by
    obtain ⟨k1, k2, k3⟩ := put_keys n x (hg x List.mem_cons_self) acc ha hs
    refine collect_keys n gs _ _ (fun y hy => hg y (List.mem_cons_of_mem _ hy)) k3 k1 (addKey_nodup hn) fun k => ?_
    rw [k2, addKey_mem, hm]
    exact or_comm
theorem sizeOf_keys (t : Table) (g : Nat) : sizeOf_ t g = ((t.rows.map fun r => keyOf (width t) g r.vs).foldl addKey []).length := by
  unfold sizeOf_ groupsOf collect
  rw [collect_keys (columnsOf (width t) g).length _ [] [] (fun y hy => by
    obtain ⟨r, _, rfl⟩ := List.mem_map.mp hy
    simp [keyOf]) (by simp) (by simp [keysOf]) (by simp) (by simp [keysOf]), List.foldl_map, List.foldl_map]
theorem addKeys_le : ∀ (l ks : List (List Nat)), (l.foldl addKey ks).length ≤ ks.length + l.length
  | [], ks => Nat.le_refl _
  | k :: l, ks => by
    have := addKeys_le l (addKey ks k)
    rw [List.foldl_cons, List.length_cons]
    have h2 : (addKey ks k).length ≤ ks.length + 1 := by
      unfold addKey
      split
      · omega
      · simp
    omega
theorem sizeOf_le (t : Table) (g : Nat) : sizeOf_ t g ≤ t.rows.length := by
  rw [sizeOf_keys]
  have := addKeys_le (t.rows.map fun r => keyOf (width t) g r.vs) []
  simpa using this
end BA

/-! pure: sorted lists, the least of some -/
namespace BA
open VamvsBase Vamvsa

theorem sorted_eq : ∀ {l m : List Nat}, l.Perm m → l.Pairwise (· ≤ ·) → m.Pairwise (· ≤ ·) → l = m
  | [], m, h, _, _ => (List.nil_perm.mp h).symm
  | a :: l, m, h, h1, h2 => by
    cases m with
    | nil => exact absurd h (by simp)
    | cons b m =>
      rw [List.pairwise_cons] at h1 h2
      have ha : a ∈ b :: m := h.mem_iff.mp List.mem_cons_self
      have hb : b ∈ a :: l := h.mem_iff.mpr List.mem_cons_self
      have e : a = b := by
        rcases List.mem_cons.mp ha with e | ha
        · exact e
        · rcases List.mem_cons.mp hb with e | hb
          · exact e.symm
          · have := h1.1 b hb
            have := h2.1 a ha
            omega
      subst e
      rw [sorted_eq (List.perm_cons a |>.mp h) h1.2 h2.2]
def srt (S : List Nat) : List Nat := S.mergeSort fun a b => decide (a ≤ b)
theorem srt_perm (S : List Nat) : (srt S).Perm S := List.mergeSort_perm S _
theorem srt_sorted (S : List Nat) : (srt S).Pairwise (· ≤ ·) := by
  have := List.pairwise_mergeSort (le := fun a b : Nat => decide (a ≤ b)) (fun a b c h1 h2 => by simp only [decide_eq_true_eq] at *; omega) (fun a b => by simp only [Bool.or_eq_true, decide_eq_true_eq]; omega) S
  exact this.imp fun {a b} h => by simpa using h
theorem srt_mem {S : List Nat} {x : Nat} : x ∈ srt S ↔ x ∈ S := (srt_perm S).mem_iff
theorem srt_len (S : List Nat) : (srt S).length = S.length := (srt_perm S).length_eq
/-- distinct ones below n, sorted -/
theorem srt_filter {S : List Nat} {n : Nat} (hn : S.Nodup) (hb : ∀ s ∈ S, s < n) : srt S = (List.range n).filter fun g => S.contains g := by
  have h2 : ((List.range n).filter fun g => S.contains g).Pairwise (· ≤ ·) := (List.Pairwise.filter _ List.pairwise_le_range)
  refine sorted_eq ?_ (srt_sorted S) h2
  refine (srt_perm S).trans ?_
  have hm : ((List.range n).filter fun g => S.contains g).Nodup := List.Pairwise.filter _ List.nodup_range
  refine (List.perm_ext_iff_of_nodup hn hm).mpr fun x => ?_
  rw [List.mem_filter, List.mem_range, List.contains_iff_mem]
  exact ⟨fun h => ⟨hb x h, h⟩, fun h => h.2⟩
/-! ### the least -/
def minStep (t : Table) (b : Option Nat) (u : Nat) : Option Nat := match b with
  | none => some u
  | some v => if sizeOf_ t u < sizeOf_ t v ∨ (sizeOf_ t u = sizeOf_ t v ∧ u < v) then some u else some v
def sStep (t : Table) (b : Option Nat) (u : Nat) : Option Nat := match b with
  | none => some u
  | some v => if sizeOf_ t u < sizeOf_ t v then some u else some v
theorem parentOf_eq (t : Table) (S : List Nat) (g : Nat) : Vamvsd.parentOf t S g = (S.filter fun u => Vamvsd.above t u g).foldl (minStep t) none := rfl
def Least (t : Table) (S : List Nat) (r : Nat) : Prop := r ∈ S ∧ ∀ u ∈ S, sizeOf_ t r < sizeOf_ t u ∨ (sizeOf_ t r = sizeOf_ t u ∧ r ≤ u)
theorem Least.uniq {t : Table} {S : List Nat} {r s : Nat} (h1 : Least t S r) (h2 : Least t S s) : r = s := by
  have a := h1.2 s h2.1
  have b := h2.2 r h1.1
  omega
theorem Least.mono {t : Table} {S S' : List Nat} {r : Nat} (h : Least t S r) (e : ∀ x, x ∈ S ↔ x ∈ S') : Least t S' r := ⟨(e r).mp h.1, fun u hu => h.2 u ((e u).mpr hu)⟩
theorem min_some (t : Table) : ∀ (S : List Nat) (v : Nat), ∃ r, S.foldl (minStep t) (some v) = some r ∧ Least t (v :: S) r
  | [], v => ⟨v, rfl, List.mem_cons_self, fun u hu => by
    have : u = v := by simpa using hu
    rw [this]
    exact .inr ⟨rfl, Nat.le_refl _⟩⟩
  | u :: S, v => by
    rw [List.foldl_cons]
    show ∃ r, S.foldl (minStep t) (if sizeOf_ t u < sizeOf_ t v ∨ (sizeOf_ t u = sizeOf_ t v ∧ u < v) then some u else some v) = some r ∧ _
    by_cases h : sizeOf_ t u < sizeOf_ t v ∨ (sizeOf_ t u = sizeOf_ t v ∧ u < v)
    · rw [if_pos h]
      obtain ⟨r, h1, h2, h3⟩ := min_some t S u
      refine ⟨r, h1, List.mem_cons_of_mem _ h2, fun x hx => ?_⟩
      rcases List.mem_cons.mp hx with rfl | hx
      · have := h3 u List.mem_cons_self
        omega
      · exact h3 x hx
    · rw [if_neg h]
      obtain ⟨r, h1, h2, h3⟩ := min_some t S v
      refine ⟨r, h1, ?_, fun x hx => ?_⟩
      · rcases List.mem_cons.mp h2 with e | h2
        · rw [e]; exact List.mem_cons_self
        · exact List.mem_cons_of_mem _ (List.mem_cons_of_mem _ h2)
      · rcases List.mem_cons.mp hx with rfl | hx
        · exact h3 x List.mem_cons_self
        · rcases List.mem_cons.mp hx with rfl | hx
          · have := h3 v List.mem_cons_self
            omega
          · exact h3 x (List.mem_cons_of_mem _ hx)
theorem s_some (t : Table) : ∀ (S : List Nat) (v : Nat), (v :: S).Pairwise (· ≤ ·) → ∃ r, S.foldl (sStep t) (some v) = some r ∧ Least t (v :: S) r
  | [], v, _ => ⟨v, rfl, List.mem_cons_self, fun u hu => by
    have : u = v := by simpa using hu
    rw [this]
    exact .inr ⟨rfl, Nat.le_refl _⟩⟩
  | u :: S, v, hp => by
    rw [List.pairwise_cons] at hp
    obtain ⟨p1, p2⟩ := hp
    have p2' := p2
    rw [List.pairwise_cons] at p2'
    have hvu := p1 u List.mem_cons_self
    rw [List.foldl_cons]
    show ∃ r, S.foldl (sStep t) (if sizeOf_ t u < sizeOf_ t v then some u else some v) = some r ∧ _
    by_cases h : sizeOf_ t u < sizeOf_ t v
    · rw [if_pos h]
      obtain ⟨r, h1, h2, h3⟩ := s_some t S u p2
      refine ⟨r, h1, List.mem_cons_of_mem _ h2, fun x hx => ?_⟩
      rcases List.mem_cons.mp hx with rfl | hx
      · have := h3 u List.mem_cons_self
        omega
      · exact h3 x hx
    · rw [if_neg h]
      obtain ⟨r, h1, h2, h3⟩ := s_some t S v (List.pairwise_cons.mpr ⟨fun x hx => p1 x (List.mem_cons_of_mem _ hx), p2'.2⟩)
      refine ⟨r, h1, ?_, fun x hx => ?_⟩
      · rcases List.mem_cons.mp h2 with e | h2
        · rw [e]; exact List.mem_cons_self
        · exact List.mem_cons_of_mem _ (List.mem_cons_of_mem _ h2)
      · rcases List.mem_cons.mp hx with rfl | hx
        · exact h3 x List.mem_cons_self
        · rcases List.mem_cons.mp hx with rfl | hx
          · have := h3 v List.mem_cons_self
            omega
          · exact h3 x (List.mem_cons_of_mem _ hx)
theorem min_none (t : Table) (S : List Nat) : (S = [] ∧ S.foldl (minStep t) none = none) ∨ ∃ r, S.foldl (minStep t) none = some r ∧ Least t S r := by
  cases S with
  | nil => exact .inl ⟨rfl, rfl⟩
  | cons v S => exact .inr (min_some t S v)
theorem s_none (t : Table) (S : List Nat) (h : S.Pairwise (· ≤ ·)) : (S = [] ∧ S.foldl (sStep t) none = none) ∨ ∃ r, S.foldl (sStep t) none = some r ∧ Least t S r := by
  cases S with
  | nil => exact .inl ⟨rfl, rfl⟩
  | cons v S => exact .inr (s_some t S v h)
/-- the least does not hang on the order -/
theorem min_congr {t : Table} {S S' : List Nat} (e : ∀ x, x ∈ S ↔ x ∈ S') : S.foldl (minStep t) none = S'.foldl (minStep t) none := by
  rcases min_none t S with ⟨h1, h2⟩ | ⟨r, h1, h2⟩
  · rcases min_none t S' with ⟨k1, k2⟩ | ⟨s, k1, k2⟩
    · rw [h2, k2]
    · have := (e s).mpr k2.1
      rw [h1] at this
      cases this
  · rcases min_none t S' with ⟨k1, k2⟩ | ⟨s, k1, k2⟩
    · have := (e r).mp h2.1
      rw [k1] at this
      cases this
    · rw [h1, k1, (h2.mono e).uniq k2]
theorem smallest_eq (t : Table) (S : List Nat) : (srt S).foldl (sStep t) none = S.foldl (minStep t) none := by
  rcases s_none t (srt S) (srt_sorted S) with ⟨h1, h2⟩ | ⟨r, h1, h2⟩
  · have : S = [] := by
      have := srt_len S
      rw [h1] at this
      exact List.length_eq_zero_iff.mp this.symm
    rw [h2, this]
    rfl
  · rcases min_none t S with ⟨k1, k2⟩ | ⟨s, k1, k2⟩
    · have := srt_mem.mp h2.1
      rw [k1] at this
      cases this
    · rw [h1, k1, (h2.mono fun x => srt_mem).uniq k2]
theorem min_mem {t : Table} {S : List Nat} {r : Nat} (h : S.foldl (minStep t) none = some r) : r ∈ S := by
  rcases min_none t S with ⟨_, k2⟩ | ⟨s, k1, k2⟩
  · rw [k2] at h; cases h
  · rw [k1] at h; cases h; exact k2.1
theorem parentOf_mem {t : Table} {S : List Nat} {g r : Nat} (h : Vamvsd.parentOf t S g = some r) : r ∈ S ∧ Vamvsd.above t r g = true := by
  rw [parentOf_eq] at h
  have := min_mem h
  rw [List.mem_filter] at this
  exact this
theorem s_mem {t : Table} : ∀ {S : List Nat} {b : Option Nat} {r : Nat}, S.foldl (sStep t) b = some r → r ∈ S ∨ b = some r
  | [], b, r, h => .inr h
  | u :: S, b, r, h => by
    rw [List.foldl_cons] at h
    rcases s_mem h with h | h
    · exact .inl (List.mem_cons_of_mem _ h)
    · cases b with
      | none =>
        cases h
        exact .inl List.mem_cons_self
      | some v =>
        have h : (if sizeOf_ t u < sizeOf_ t v then some u else some v) = some r := h
        split at h
        · cases h
          exact .inl List.mem_cons_self
        · exact .inr h
def sizesL (t : Table) : List Nat := (List.range (2 ^ width t)).map (sizeOf_ t)
theorem sizesL_len (t : Table) : (sizesL t).length = 2 ^ width t := by simp [sizesL]
theorem sizesL_get {t : Table} {g : Nat} (h : g < 2 ^ width t) : (sizesL t)[g]? = some (sizeOf_ t g) := by
  unfold sizesL
  rw [List.getElem?_map, List.getElem?_range h]
  rfl
end BA

/-! pure: playing steps -/
namespace BA
open VamvsBase Vamvsa Vamvsd

def stepPair : Step → Nat × Int
  | .table g => (g, -1)
  | .from_ g u => (g, (u : Int))
  | .drop g => (g, -2)
def stepOk (t : Table) : Step → Prop
  | .table g => g < 2 ^ width t
  | .from_ g u => g < 2 ^ width t ∧ u < 2 ^ width t
  | .drop g => g < 2 ^ width t
/-- what stays true of a site -/
structure SiteOk (t : Table) (s : Site) : Prop where
  nd : s.built.Nodup
  bd : ∀ g ∈ s.built, g < 2 ^ width t
  pk : lines t s.built ≤ s.peak
theorem lines_filter (t : Table) (g : Nat) : ∀ l : List Nat, lines t (l.filter fun v => v != g) ≤ lines t l
  | [] => Nat.le_refl _
  | a :: l => by
    have ih := lines_filter t g l
    unfold lines at *
    rw [List.filter_cons]
    split
    · simp only [List.map_cons, List.sum_cons]; omega
    · simp only [List.map_cons, List.sum_cons]; omega
theorem grown_ok {t : Table} {s : Site} {g : Nat} {u : Option Nat} (h : SiteOk t s) (hg : g < 2 ^ width t) (hn : s.built.contains g = false) : SiteOk t (grown t s g u) := by
  refine ⟨?_, fun x hx => ?_, Nat.le_max_right _ _⟩
  · show (s.built ++ [g]).Nodup
    rw [List.nodup_append]
    refine ⟨h.nd, by simp, fun a ha b hb => ?_⟩
    have : b = g := by simpa using hb
    rintro rfl
    rw [this] at ha
    rw [List.contains_iff_mem.mpr ha] at hn
    cases hn
  · rcases List.mem_append.mp hx with hx | hx
    · exact h.bd x hx
    · have : x = g := by simpa using hx
      rw [this]
      exact hg
theorem doStep_ok {t : Table} {s s' : Site} {st : Step} (h : SiteOk t s) (ho : stepOk t st) (e : doStep t s st = some s') : SiteOk t s' := by
  cases st with
  | table g =>
    have e : (if s.built.contains g = true then none else some (grown t s g none)) = some s' := e
    by_cases hn : s.built.contains g = true
    · rw [if_pos hn] at e
      cases e
    · rw [if_neg hn] at e
      cases e
      exact grown_ok h ho (by simpa using hn)
  | from_ g u =>
    have e : (if s.built.contains g = true ∨ s.built.contains u = false ∨ above t u g = false then none else some (grown t s g (some u))) = some s' := e
    by_cases hn : s.built.contains g = true ∨ s.built.contains u = false ∨ above t u g = false
    · rw [if_pos hn] at e
      cases e
    · rw [if_neg hn] at e
      cases e
      exact grown_ok h ho.1 (by
        cases z : s.built.contains g with
        | false => rfl
        | true => exact absurd (.inl z) hn)
  | drop g =>
    have e : (if s.built.contains g = false then none else some { s with built := s.built.filter fun v => v != g }) = some s' := e
    by_cases hn : s.built.contains g = false
    · rw [if_pos hn] at e
      cases e
    · rw [if_neg hn] at e
      cases e
      exact ⟨h.nd.sublist List.filter_sublist, fun x hx => h.bd x (List.mem_filter.mp hx).1, Nat.le_trans (lines_filter t g _) h.pk⟩
theorem nodup_lt_len {l : List Nat} {n : Nat} (h : l.Nodup) (hb : ∀ x ∈ l, x < n) : l.length ≤ n := by
  have : l.Sublist l := List.Sublist.refl _
  have h2 := nodup_len (l := l) (m := (List.range n).filter fun x => l.contains x) h (List.Pairwise.filter _ List.nodup_range) fun x => by
    rw [List.mem_filter, List.mem_range, List.contains_iff_mem]
    exact ⟨fun hx => ⟨hb x hx, hx⟩, fun hx => hx.2⟩
  have h3 := List.length_filter_le (fun x => l.contains x) (List.range n)
  rw [List.length_range] at h3
  omega
theorem erase_filter {l : List Nat} {g j : Nat} (h : l.Nodup) (hj : l[j]? = some g) : l.eraseIdx j = l.filter fun v => v != g := by
  induction l generalizing j with
  | nil => simp at hj
  | cons a l ih =>
    rw [List.nodup_cons] at h
    cases j with
    | zero =>
      have : a = g := by simpa using hj
      subst this
      rw [List.filter_cons, if_neg (by simp)]
      show l = _
      refine (List.filter_eq_self.mpr fun x hx => ?_).symm
      rw [bne_iff_ne]
      rintro rfl
      exact h.1 hx
    | succ j =>
      have hj : l[j]? = some g := by simpa using hj
      have hne : a ≠ g := by
        rintro rfl
        exact h.1 (List.mem_of_getElem? hj)
      rw [List.filter_cons, if_pos (by rw [bne_iff_ne]; exact hne)]
      show a :: l.eraseIdx j = _
      rw [ih h.2 hj]
end BA

/-! pure: the best helpers -/
namespace BA
open VamvsBase Vamvsa Vamvsd

/-! ### sets of at most three -/
def Asc (l : List Nat) : Prop := l.Pairwise (· < ·)
def chooseN : Nat → List Nat → List (List Nat)
  | 0, _ => [[]]
  | _ + 1, [] => [[]]
  | k + 1, x :: r => (chooseN k r).map (fun s => x :: s) ++ chooseN (k + 1) r
theorem choose_map (f : Nat → Item) : ∀ (k : Nat) (l : List Nat), choose k (l.map f) = (chooseN k l).map (List.map f)
  | 0, l => by cases l <;> rfl
  | k + 1, [] => rfl
  | k + 1, x :: r => by
    show (choose k (r.map f)).map (fun s => f x :: s) ++ choose (k + 1) (r.map f) = ((chooseN k r).map (fun s => x :: s) ++ chooseN (k + 1) r).map (List.map f)
    rw [choose_map f k r, choose_map f (k + 1) r, List.map_append, List.map_map, List.map_map]
    rfl
theorem chooseN_mem : ∀ (k : Nat) (l s : List Nat), s ∈ chooseN k l ↔ s.Sublist l ∧ s.length ≤ k
  | 0, l, s => by
    cases l <;> (simp only [chooseN, List.mem_singleton]; constructor)
    · rintro rfl; exact ⟨List.nil_sublist _, Nat.le_refl _⟩
    · rintro ⟨_, h⟩; exact List.length_eq_zero_iff.mp (by omega)
    · rintro rfl; exact ⟨List.nil_sublist _, Nat.le_refl _⟩
    · rintro ⟨_, h⟩; exact List.length_eq_zero_iff.mp (by omega)
  | k + 1, [], s => by
    simp only [chooseN, List.mem_singleton]
    constructor
    · rintro rfl; exact ⟨List.nil_sublist _, Nat.zero_le _⟩
    · rintro ⟨h, _⟩; exact List.sublist_nil.mp h
  | k + 1, x :: r, s => by
    simp only [chooseN, List.mem_append, List.mem_map]
    rw [chooseN_mem (k + 1) r s]
    constructor
    · rintro (⟨u, hu, rfl⟩ | ⟨h1, h2⟩)
      · obtain ⟨h1, h2⟩ := (chooseN_mem k r u).mp hu
        exact ⟨h1.cons_cons x, by rw [List.length_cons]; omega⟩
      · exact ⟨h1.cons x, h2⟩
    · rintro ⟨h1, h2⟩
      cases h1 with
      | cons _ h => exact .inr ⟨h, h2⟩
      | @cons_cons u _ _ h => exact .inl ⟨u, (chooseN_mem k r u).mpr ⟨h, by rw [List.length_cons] at h2; omega⟩, rfl⟩
theorem asc_sublist : ∀ {S s : List Nat}, Asc s → Asc S → (∀ x ∈ s, x ∈ S) → s.Sublist S
  | _, [], _, _, _ => List.nil_sublist _
  | [], a :: s, _, _, h => absurd (h a List.mem_cons_self) (by simp)
  | b :: S, a :: s, h1, h2, h => by
    have h1' := h1
    have h2' := h2
    unfold Asc at h1' h2'
    rw [List.pairwise_cons] at h1' h2'
    rcases List.mem_cons.mp (h a List.mem_cons_self) with e | ha
    · subst e
      refine (asc_sublist h1'.2 h2'.2 fun x hx => ?_).cons_cons a
      rcases List.mem_cons.mp (h x (List.mem_cons_of_mem _ hx)) with e | hx2
      · have := h1'.1 x hx
        omega
      · exact hx2
    · refine (asc_sublist h1 h2'.2 fun x hx => ?_).cons b
      rcases List.mem_cons.mp (h x hx) with e | hx2
      · have hb := h2'.1 a ha
        rcases List.mem_cons.mp hx with e2 | hx3
        · omega
        · have := h1'.1 x hx3
          omega
      · exact hx2
def extOk (row : List Nat) (one : Nat) : Bool := row.isEmpty || decide (row.getLastD 0 < one)
def extend (S : List Nat) (row : List Nat) : List (List Nat) := (S.filter (extOk row)).map fun one => row ++ [one]
def levels (S : List Nat) : Nat → List (List Nat)
  | 0 => [[]]
  | k + 1 => (levels S k).flatMap (extend S)
def setsUp (S : List Nat) : Nat → List (List Nat)
  | 0 => [[]]
  | k + 1 => setsUp S k ++ levels S (k + 1)
theorem asc_snoc {l : List Nat} {a : Nat} : Asc (l ++ [a]) ↔ Asc l ∧ extOk l a = true := by
  have last : ∀ l : List Nat, l ≠ [] → l.getLastD 0 ∈ l := fun l h => by
    rw [List.getLastD_eq_getLast?, List.getLast?_eq_getLast h]
    exact List.getLast_mem h
  unfold Asc
  rw [List.pairwise_append]
  constructor
  · rintro ⟨h1, _, h3⟩
    refine ⟨h1, ?_⟩
    unfold extOk
    cases l with
    | nil => rfl
    | cons b r =>
      rw [Bool.or_eq_true, decide_eq_true_iff]
      exact .inr (h3 _ (last _ (by simp)) a (by simp))
  · rintro ⟨h1, h2⟩
    refine ⟨h1, by simp, fun x hx y hy => ?_⟩
    have : y = a := by simpa using hy
    rw [this]
    have hne : l ≠ [] := fun e => by rw [e] at hx; cases hx
    have h3 : l.getLastD 0 < a := by
      unfold extOk at h2
      rw [Bool.or_eq_true, decide_eq_true_iff] at h2
      rcases h2 with h2 | h2
      · exact absurd (List.isEmpty_iff.mp h2) hne
      · exact h2
    obtain ⟨r, e⟩ : ∃ r, l = r ++ [l.getLastD 0] := by
      refine ⟨l.dropLast, ?_⟩
      rw [List.getLastD_eq_getLast?, List.getLast?_eq_getLast hne]
      exact (List.dropLast_concat_getLast hne).symm
    rw [e] at hx h1
    rw [List.pairwise_append] at h1
    rcases List.mem_append.mp hx with hx | hx
    · exact Nat.lt_trans (h1.2.2 x hx _ (by simp)) h3
    · have : x = l.getLastD 0 := by simpa using hx
      rw [this]
      exact h3
theorem levels_mem (S : List Nat) : ∀ (k : Nat) (s : List Nat), s ∈ levels S k ↔ s.length = k ∧ Asc s ∧ ∀ x ∈ s, x ∈ S
  | 0, s => by
    simp only [levels, List.mem_singleton]
    constructor
    · rintro rfl; exact ⟨rfl, List.Pairwise.nil, by simp⟩
    · rintro ⟨h, _⟩; exact List.length_eq_zero_iff.mp h
  | k + 1, s => by
    simp only [levels, List.mem_flatMap]
    constructor
    · rintro ⟨row, hr, hs⟩
      obtain ⟨h1, h2, h3⟩ := (levels_mem S k row).mp hr
      obtain ⟨one, ho, rfl⟩ := List.mem_map.mp hs
      obtain ⟨ho1, ho2⟩ := List.mem_filter.mp ho
      refine ⟨by rw [List.length_append, h1]; rfl, asc_snoc.mpr ⟨h2, ho2⟩, fun x hx => ?_⟩
      rcases List.mem_append.mp hx with hx | hx
      · exact h3 x hx
      · have : x = one := by simpa using hx
        rw [this]
        exact ho1
    · rintro ⟨h1, h2, h3⟩
      have hne : s ≠ [] := fun e => by rw [e] at h1; cases h1
      have e := List.dropLast_concat_getLast hne
      rw [← e] at h2
      obtain ⟨h4, h5⟩ := asc_snoc.mp h2
      refine ⟨s.dropLast, (levels_mem S k _).mpr ⟨by rw [List.length_dropLast]; omega, h4, fun x hx => h3 x (List.dropLast_subset s hx)⟩, List.mem_map.mpr ⟨s.getLast hne, List.mem_filter.mpr ⟨h3 _ (List.getLast_mem hne), h5⟩, e⟩⟩
theorem setsUp_mem (S : List Nat) : ∀ (k : Nat) (s : List Nat), s ∈ setsUp S k ↔ s.length ≤ k ∧ Asc s ∧ ∀ x ∈ s, x ∈ S
  | 0, s => by
    show s ∈ levels S 0 ↔ _
    rw [levels_mem]
    constructor
    · rintro ⟨h, r⟩; exact ⟨by omega, r⟩
    · rintro ⟨h, r⟩; exact ⟨by omega, r⟩
  | k + 1, s => by
    simp only [setsUp, List.mem_append]
    rw [setsUp_mem S k, levels_mem]
    constructor
    · rintro (⟨h, r⟩ | ⟨h, r⟩)
      · exact ⟨by omega, r⟩
      · exact ⟨by omega, r⟩
    · rintro ⟨h, r⟩
      by_cases e : s.length = k + 1
      · exact .inr ⟨e, r⟩
      · exact .inl ⟨by omega, r⟩
theorem sets_same {S : List Nat} (h : Asc S) (s : List Nat) : s ∈ setsUp S 3 ↔ s ∈ chooseN 3 S := by
  rw [setsUp_mem, chooseN_mem]
  constructor
  · rintro ⟨h1, h2, h3⟩
    exact ⟨asc_sublist h2 h h3, h1⟩
  · rintro ⟨h1, h2⟩
    exact ⟨h2, h.sublist h1, fun x hx => h1.subset hx⟩
/-! ### codes -/
def codeN (s : List Nat) : Nat := (s.map fun g => 2 ^ g).sum
theorem code_dvd : ∀ (s : List Nat) (n : Nat), (∀ x ∈ s, n ≤ x) → 2 ^ n ∣ codeN s
  | [], _, _ => Nat.dvd_zero _
  | a :: s, n, h => by
    have h1 : 2 ^ n ∣ 2 ^ a := Nat.pow_dvd_pow 2 (h a List.mem_cons_self)
    have h2 := code_dvd s n fun x hx => h x (List.mem_cons_of_mem _ hx)
    exact Nat.dvd_add h1 h2
theorem code_pos {a : Nat} {s : List Nat} : 0 < codeN (a :: s) := Nat.lt_of_lt_of_le (Nat.two_pow_pos a) (Nat.le_add_right _ _)
theorem code_cmp {a b : Nat} {s m : List Nat} (h1 : Asc (a :: s)) (h2 : Asc (b :: m)) (e : codeN (a :: s) = codeN (b :: m)) : ¬ a < b := by
  intro hab
  unfold Asc at h1 h2
  rw [List.pairwise_cons] at h1 h2
  have d1 : 2 ^ (a + 1) ∣ codeN (b :: m) := code_dvd _ _ fun x hx => by
    rcases List.mem_cons.mp hx with rfl | hx
    · omega
    · have := h2.1 x hx
      omega
  have d2 : 2 ^ (a + 1) ∣ codeN s := code_dvd _ _ fun x hx => h1.1 x hx
  rw [← e] at d1
  have d3 : 2 ^ (a + 1) ∣ 2 ^ a := (Nat.dvd_add_left d2).mp d1
  have := Nat.le_of_dvd (Nat.two_pow_pos a) d3
  rw [Nat.pow_succ] at this
  have := Nat.two_pow_pos a
  omega
theorem code_inj : ∀ {s m : List Nat}, Asc s → Asc m → codeN s = codeN m → s = m
  | [], [], _, _, _ => rfl
  | [], b :: m, _, _, e => by have := code_pos (a := b) (s := m); rw [← e] at this; exact absurd this (by decide)
  | a :: s, [], _, _, e => by have := code_pos (a := a) (s := s); rw [e] at this; exact absurd this (by decide)
  | a :: s, b :: m, h1, h2, e => by
    have e1 : a = b := by
      have := code_cmp h1 h2 e
      have := code_cmp h2 h1 e.symm
      omega
    subst e1
    have h1' := h1
    have h2' := h2
    unfold Asc at h1' h2'
    rw [List.pairwise_cons] at h1' h2'
    rw [code_inj h1'.2 h2'.2 (by
      have e : 2 ^ a + codeN s = 2 ^ a + codeN m := e
      omega)]
/-! ### the least of priced sets -/
def priceN (t : Table) (wish s : List Nat) : Helpers := ⟨buildCost t (wish ++ s), s, codeN s⟩
theorem less_iff {a b : Helpers} : helpersLess a b = true ↔ a.cost < b.cost ∨ (a.cost = b.cost ∧ (a.hs.length < b.hs.length ∨ (a.hs.length = b.hs.length ∧ a.code < b.code))) := by
  unfold helpersLess
  simp only [Bool.or_eq_true, Bool.and_eq_true, decide_eq_true_eq, beq_iff_eq]
theorem fold_least (t : Table) (wish : List Nat) : ∀ (L : List (List Nat)) (s0 : List Nat), ∃ s, L.foldl (fun b u => if helpersLess (priceN t wish u) b = true then priceN t wish u else b) (priceN t wish s0) = priceN t wish s ∧ (s = s0 ∨ s ∈ L) ∧ ∀ u, u = s0 ∨ u ∈ L → helpersLess (priceN t wish u) (priceN t wish s) = false
  | [], s0 => ⟨s0, rfl, .inl rfl, fun u hu => by
    rcases hu with rfl | hu
    · rw [Bool.eq_false_iff]
      intro h
      rw [less_iff] at h
      omega
    · cases hu⟩
  | v :: L, s0 => by
    rw [List.foldl_cons]
    by_cases hv : helpersLess (priceN t wish v) (priceN t wish s0) = true
    · rw [if_pos hv]
      obtain ⟨s, h1, h2, h3⟩ := fold_least t wish L v
      refine ⟨s, h1, ?_, fun u hu => ?_⟩
      · rcases h2 with rfl | h2
        · exact .inr List.mem_cons_self
        · exact .inr (List.mem_cons_of_mem _ h2)
      · rcases hu with rfl | hu
        · have hk := h3 v (.inl rfl)
          rw [Bool.eq_false_iff] at hk ⊢
          intro h
          apply hk
          rw [less_iff] at *
          omega
        · rcases List.mem_cons.mp hu with rfl | hu
          · exact h3 u (.inl rfl)
          · exact h3 u (.inr hu)
    · rw [if_neg hv]
      obtain ⟨s, h1, h2, h3⟩ := fold_least t wish L s0
      refine ⟨s, h1, ?_, fun u hu => ?_⟩
      · rcases h2 with rfl | h2
        · exact .inl rfl
        · exact .inr (List.mem_cons_of_mem _ h2)
      · rcases hu with rfl | hu
        · exact h3 u (.inl rfl)
        · rcases List.mem_cons.mp hu with rfl | hu
          · have hk := h3 s0 (.inl rfl)
            rw [Bool.eq_false_iff] at hk ⊢
            rw [ne_eq, less_iff] at hk
            intro h
            rw [less_iff] at h
            rw [less_iff] at hv
            omega
          · exact h3 u (.inr hu)
theorem least_uniq {t : Table} {wish s u : List Nat} (h1 : helpersLess (priceN t wish u) (priceN t wish s) = false) (h2 : helpersLess (priceN t wish s) (priceN t wish u) = false) (a1 : Asc s) (a2 : Asc u) : s = u := by
  rw [Bool.eq_false_iff] at h1 h2
  rw [ne_eq, less_iff] at h1 h2
  refine code_inj a1 a2 ?_
  have e1 : (priceN t wish u).code = codeN u := rfl
  have e2 : (priceN t wish s).code = codeN s := rfl
  omega
end BA

/-! pure: the best helpers, joined -/
namespace BA
open VamvsBase Vamvsa Vamvsd

def itemOf (t : Table) (g : Nat) : Item := ⟨g, sizeOf_ t g, (groupings t).filter fun u => above t u g⟩
theorem items_get {t : Table} {g : Nat} (h : g < 2 ^ width t) : (items t)[g]? = some (itemOf t g) := by
  unfold items groupings
  rw [List.getElem?_map, List.getElem?_range h]
  rfl
theorem fold_min {r : Nat} : ∀ (l : List Nat), (l.foldl Nat.min r = r ∨ l.foldl Nat.min r ∈ l) ∧ l.foldl Nat.min r ≤ r ∧ ∀ x ∈ l, l.foldl Nat.min r ≤ x
  | l => by
    have key : ∀ (l : List Nat) (r : Nat), (l.foldl Nat.min r = r ∨ l.foldl Nat.min r ∈ l) ∧ l.foldl Nat.min r ≤ r ∧ ∀ x ∈ l, l.foldl Nat.min r ≤ x := by
      intro l
      induction l with
      | nil => intro r; exact ⟨.inl rfl, Nat.le_refl _, fun x hx => nomatch hx⟩
      | cons a l ih =>
        intro r
        rw [List.foldl_cons]
        obtain ⟨h1, h2, h3⟩ := ih (Nat.min r a)
        have hm1 : Nat.min r a ≤ r := Nat.min_le_left _ _
        have hm2 : Nat.min r a ≤ a := Nat.min_le_right _ _
        refine ⟨?_, Nat.le_trans h2 hm1, fun x hx => ?_⟩
        · rcases h1 with h1 | h1
          · rw [h1]
            rcases Nat.le_total r a with h | h
            · exact .inl (Nat.min_eq_left h)
            · exact .inr (by rw [show Nat.min r a = a from Nat.min_eq_right h]; exact List.mem_cons_self)
          · exact .inr (List.mem_cons_of_mem _ h1)
        · rcases List.mem_cons.mp hx with rfl | hx
          · exact Nat.le_trans h2 hm2
          · exact h3 x hx
    exact key l r
theorem min_read (t : Table) (S : List Nat) (g : Nat) : ((S.filter fun u => above t u g).map (sizeOf_ t)).foldl Nat.min t.rows.length = readOf t (parentOf t S g) := by
  rw [parentOf_eq]
  obtain ⟨h1, h2, h3⟩ := fold_min (r := t.rows.length) ((S.filter fun u => above t u g).map (sizeOf_ t))
  rcases min_none t (S.filter fun u => above t u g) with ⟨k1, k2⟩ | ⟨r, k1, k2⟩
  · rw [k2, k1]
    rfl
  · rw [k1]
    show _ = sizeOf_ t r
    refine Nat.le_antisymm (h3 _ (List.mem_map_of_mem k2.1)) ?_
    rcases h1 with h1 | h1
    · rw [h1]
      exact sizeOf_le t r
    · obtain ⟨u, hu, e⟩ := List.mem_map.mp h1
      rw [← e]
      have := k2.2 u hu
      omega
theorem fm_congr {α β : Type} {f g : α → Option β} : ∀ {l : List α}, (∀ x ∈ l, f x = g x) → l.filterMap f = l.filterMap g
  | [], _ => rfl
  | x :: l, h => by
    have e := fm_congr fun y hy => h y (List.mem_cons_of_mem x hy)
    rw [List.filterMap_cons, List.filterMap_cons, h x List.mem_cons_self, e]
theorem fm_if {α β : Type} {p : α → Bool} {f : α → β} : ∀ {l : List α}, (l.filterMap fun u => if p u = true then some (f u) else none) = (l.filter p).map f
  | [] => rfl
  | x :: l => by
    rw [List.filterMap_cons, List.filter_cons]
    cases h : p x
    · simp only [Bool.false_eq_true, if_false]
      exact fm_if
    · simp only [if_true, List.map_cons]
      exact congrArg _ fm_if
theorem readOf_congr {t : Table} {S S' : List Nat} (g : Nat) (e : ∀ x, x ∈ S ↔ x ∈ S') : parentOf t S g = parentOf t S' g := by
  rw [parentOf_eq, parentOf_eq]
  exact min_congr fun x => by rw [List.mem_filter, List.mem_filter, e]
theorem costBy_eq {t : Table} {S : List Nat} (h : ∀ g ∈ S, g < 2 ^ width t) : costBy t.rows.length (items t) (S.map (itemOf t)) = buildCost t S := by
  unfold costBy buildCost
  rw [List.map_map]
  refine congrArg List.sum (List.map_congr_left fun g hg => ?_)
  show ((itemOf t g).above.filterMap _).foldl Nat.min t.rows.length + sizeOf_ t g = readOf t (parentOf t S g) + sizeOf_ t g
  congr 1
  have e1 : ((itemOf t g).above.filterMap fun u => ((items t)[u]?).bind fun y => if (S.map (itemOf t)).any (fun z => z.g == u) = true then some y.size else none)
      = ((itemOf t g).above.filterMap fun u => if S.contains u = true then some (sizeOf_ t u) else none) := by
    refine fm_congr fun u hu => ?_
    have hu2 : u < 2 ^ width t := List.mem_range.mp (List.mem_filter.mp hu).1
    rw [items_get hu2]
    show (if _ then _ else _) = _
    have e2 : (S.map (itemOf t)).any (fun z => z.g == u) = S.contains u := by
      rw [List.any_map, Bool.eq_iff_iff, List.any_eq_true, List.contains_iff_mem]
      constructor
      · rintro ⟨x, hx, hxu⟩
        have : x = u := by
          have := hxu
          exact beq_iff_eq.mp this
        rw [← this]
        exact hx
      · intro hm
        exact ⟨u, hm, beq_self_eq_true u⟩
    rw [e2]
    rfl
  rw [e1, fm_if, ← readOf_congr (S := (groupings t).filter fun u => S.contains u) (S' := S) g fun x => ?_, ← min_read, List.filter_filter]
  · show ((((groupings t).filter fun u => above t u g).filter fun u => S.contains u).map (sizeOf_ t)).foldl Nat.min t.rows.length = _
    rw [List.filter_filter]
    congr 3
    funext u
    exact Bool.and_comm _ _
  · rw [List.mem_filter, List.contains_iff_mem]
    constructor
    · exact fun h => h.2
    · exact fun hx => ⟨List.mem_range.mpr (h x hx), hx⟩
def othersOf (t : Table) (wish : List Nat) : List Nat := (groupings t).filter fun g => !wish.contains g
theorem others_asc (t : Table) (wish : List Nat) : Asc (othersOf t wish) := List.Pairwise.filter _ List.pairwise_lt_range
theorem others_lt {t : Table} {wish : List Nat} {g : Nat} (h : g ∈ othersOf t wish) : g < 2 ^ width t := List.mem_range.mp (List.mem_filter.mp h).1
/-- the program's own fold -/
def bestN (t : Table) (wish : List Nat) (L : List (List Nat)) (s0 : List Nat) : List Nat := L.foldl (fun b u => if helpersLess (priceN t wish u) (priceN t wish b) = true then u else b) s0
theorem bestN_price (t : Table) (wish : List Nat) : ∀ (L : List (List Nat)) (s0 : List Nat), L.foldl (fun b u => if helpersLess (priceN t wish u) b = true then priceN t wish u else b) (priceN t wish s0) = priceN t wish (bestN t wish L s0)
  | [], s0 => rfl
  | u :: L, s0 => by
    unfold bestN
    rw [List.foldl_cons, List.foldl_cons]
    by_cases h : helpersLess (priceN t wish u) (priceN t wish s0) = true
    · rw [if_pos h, if_pos h]
      exact bestN_price t wish L u
    · rw [if_neg h, if_neg h]
      exact bestN_price t wish L s0
theorem wanted_eq {t : Table} {wish : List Nat} (hw : (groupings t).filter (fun g => wish.contains g) = wish) : ((items t).filter fun x => wish.contains x.g) = wish.map (itemOf t) := by
  unfold items
  rw [List.filter_map]
  show (((groupings t).filter fun g => wish.contains g).map (itemOf t)) = _
  rw [hw]
theorem best_eq {t : Table} {wish : List Nat} (hw : (groupings t).filter (fun g => wish.contains g) = wish) : bestN t wish (setsUp (othersOf t wish) 3) [] = (bestHelpers t wish).hs := by
  have hwb : ∀ g ∈ wish, g < 2 ^ width t := fun g hg => by
    rw [← hw] at hg
    exact List.mem_range.mp (List.mem_filter.mp hg).1
  have eo : ((items t).filter fun x => !wish.contains x.g) = (othersOf t wish).map (itemOf t) := by
    unfold items othersOf
    rw [List.filter_map]
    rfl
  have priced : ∀ s : List Nat, (∀ g ∈ s, g < 2 ^ width t) → (⟨costBy t.rows.length (items t) (((items t).filter fun x => wish.contains x.g) ++ s.map (itemOf t)), (s.map (itemOf t)).map fun x => x.g, ((s.map (itemOf t)).map fun x => 2 ^ x.g).sum⟩ : Helpers) = priceN t wish s := fun s hs => by
    rw [wanted_eq hw, ← List.map_append, costBy_eq fun g hg => (List.mem_append.mp hg).elim (hwb g) (hs g), List.map_map, List.map_map]
    unfold priceN codeN
    congr 1
    · exact (List.map_congr_left fun x _ => rfl).trans (List.map_id' s)
  have bd : ∀ s ∈ chooseN 3 (othersOf t wish), ∀ g ∈ s, g < 2 ^ width t := fun s hs g hg => others_lt (((chooseN_mem 3 _ s).mp hs).1.subset hg)
  have eb : bestHelpers t wish = (chooseN 3 (othersOf t wish)).foldl (fun b u => if helpersLess (priceN t wish u) b = true then priceN t wish u else b) (priceN t wish []) := by
    unfold bestHelpers
    simp only []
    rw [eo, show FEW = 3 from rfl, choose_map, List.foldl_map, ← priced [] (fun g hg => nomatch hg)]
    have key : ∀ (L : List (List Nat)) (b : Helpers), (∀ s ∈ L, ∀ g ∈ s, g < 2 ^ width t) → L.foldl (fun b hs => if helpersLess (⟨costBy t.rows.length (items t) (((items t).filter fun x => wish.contains x.g) ++ hs.map (itemOf t)), (hs.map (itemOf t)).map fun x => x.g, ((hs.map (itemOf t)).map fun x => 2 ^ x.g).sum⟩ : Helpers) b = true then (⟨costBy t.rows.length (items t) (((items t).filter fun x => wish.contains x.g) ++ hs.map (itemOf t)), (hs.map (itemOf t)).map fun x => x.g, ((hs.map (itemOf t)).map fun x => 2 ^ x.g).sum⟩ : Helpers) else b) b = L.foldl (fun b u => if helpersLess (priceN t wish u) b = true then priceN t wish u else b) b := by
      intro L
      induction L with
      | nil => intro b _; rfl
      | cons s L ih =>
        intro b hb
        rw [List.foldl_cons, List.foldl_cons, priced s (hb s List.mem_cons_self)]
        exact ih _ fun u hu => hb u (List.mem_cons_of_mem _ hu)
    exact key _ _ bd
  obtain ⟨s1, a1, a2, a3⟩ := fold_least t wish (chooseN 3 (othersOf t wish)) []
  obtain ⟨s2, b1, b2, b3⟩ := fold_least t wish (setsUp (othersOf t wish) 3) []
  have sm := fun s => sets_same (others_asc t wish) s
  have asc : ∀ s, s = [] ∨ s ∈ setsUp (othersOf t wish) 3 → Asc s := fun s hs => by
    rcases hs with rfl | hs
    · exact List.Pairwise.nil
    · exact ((setsUp_mem _ _ _).mp hs).2.1
  have a2' : s1 = [] ∨ s1 ∈ setsUp (othersOf t wish) 3 := a2.imp id (sm s1).mpr
  have b2' : s2 = [] ∨ s2 ∈ chooseN 3 (othersOf t wish) := b2.imp id (sm s2).mp
  have e12 : s1 = s2 := least_uniq (a3 s2 b2') (b3 s1 a2') (asc s1 a2') (asc s2 b2)
  rw [eb, a1, e12, ← b1, bestN_price]
  rfl
end BA

/-! pure: plans -/
namespace BA
open VamvsBase Vamvsa Vamvsd

theorem rank_le (t : Table) (g : Nat) : rank t g ≤ width t := by
  unfold rank columnsOf
  refine Nat.le_trans (List.length_filter_le _ _) ?_
  rw [List.length_range]
  exact Nat.le_refl _
def rkey (t : Table) (g : Nat) : Nat := (4 - rank t g) * 16 + g
theorem rank_order {t : Table} {l : List Nat} (h4 : width t ≤ 4) (nd : l.Nodup) (hb : ∀ g ∈ l, g < 2 ^ width t) {m : List Nat} (hp : m.Perm l) (hs : m.Pairwise fun p q => rkey t p ≤ rkey t q) : m = inRank t l := by
  have h16 : 2 ^ width t ≤ 16 := pow_le16 h4
  have mem : ∀ g, g ∈ inRank t l ↔ g ∈ l := fun g => by
    unfold inRank
    rw [List.mem_flatMap]
    constructor
    · rintro ⟨n, _, h⟩
      have := (List.mem_filter.mp (List.mem_filter.mp h).1).2
      exact List.contains_iff_mem.mp this
    · intro h
      refine ⟨rank t g, List.mem_reverse.mpr (List.mem_range.mpr (Nat.lt_succ_of_le (rank_le t g))), List.mem_filter.mpr ⟨List.mem_filter.mpr ⟨List.mem_range.mpr (hb g h), List.contains_iff_mem.mpr h⟩, ?_⟩⟩
      exact beq_self_eq_true _
  have nd0 : ∀ n, (((groupings t).filter fun g => l.contains g).filter fun g => rank t g == n).Nodup := fun n => (List.nodup_range.filter _).filter _
  have pw : (inRank t l).Pairwise fun p q => rkey t p ≤ rkey t q ∧ p ≠ q := by
    unfold inRank
    rw [List.pairwise_flatMap]
    constructor
    · intro n hn
      have h1 : (((groupings t).filter fun g => l.contains g).filter fun g => rank t g == n).Pairwise (· < ·) := (List.pairwise_lt_range.filter _).filter _
      refine List.Pairwise.imp_of_mem ?_ h1
      intro p q hp hq hlt
      have a := beq_iff_eq.mp (List.mem_filter.mp hp).2
      have b := beq_iff_eq.mp (List.mem_filter.mp hq).2
      have hlt : p < q := hlt
      unfold rkey
      rw [a, b]
      omega
    · rw [List.pairwise_reverse]
      refine List.Pairwise.imp_of_mem ?_ List.pairwise_lt_range
      intro n k hn hk hlt p hp q hq
      have a := beq_iff_eq.mp (List.mem_filter.mp hp).2
      have b := beq_iff_eq.mp (List.mem_filter.mp hq).2
      have c := (List.mem_filter.mp (List.mem_filter.mp hp).1).1
      have c2 := List.mem_range.mp c
      have k4 := List.mem_range.mp hk
      unfold rkey
      rw [a, b]
      have hne : p ≠ q := fun z => by rw [z, b] at a; omega
      omega
  have ndR : (inRank t l).Nodup := pw.imp fun h => h.2
  have hp2 : m.Perm (inRank t l) := hp.trans ((List.perm_ext_iff_of_nodup nd ndR).mpr fun g => (mem g).symm)
  have back : ∀ k : List Nat, (∀ g ∈ k, g < 16) → (k.map (rkey t)).map (fun x => x % 16) = k := fun k hk => by
    rw [List.map_map]
    refine (List.map_congr_left fun g hg => ?_).trans (List.map_id' k)
    show rkey t g % 16 = g
    have := hk g hg
    unfold rkey
    omega
  have b1 := back m fun g hg => Nat.lt_of_lt_of_le (hb g (hp.mem_iff.mp hg)) h16
  have b2 := back (inRank t l) fun g hg => Nat.lt_of_lt_of_le (hb g ((mem g).mp hg)) h16
  rw [← b1, ← b2]
  congr 1
  refine sorted_eq (hp2.map _) ?_ ?_
  · rw [List.pairwise_map]; exact hs
  · rw [List.pairwise_map]; exact pw.imp fun h => h.1

/-! ### the plan, turn by turn -/
def makeOf (t : Table) (all : List Nat) (g : Nat) : Step := match parentOf t all g with
  | none => .table g
  | some u => .from_ g u
theorem make_pair (t : Table) (all : List Nat) (g : Nat) : stepPair (makeOf t all g) = (g, parentNumber (parentOf t all g)) := by
  unfold makeOf
  cases parentOf t all g <;> rfl
def leftOf (t : Table) (all hs r gone : List Nat) : List Nat := hs.filter fun h => !gone.contains h && (!r.contains h && !r.any fun x => parentOf t all x == some h)
theorem planBy_cons (t : Table) (all hs : List Nat) (g : Nat) (r gone : List Nat) : planBy t all hs (g :: r) gone = (makeOf t all g :: (leftOf t all hs r gone).map fun h => .drop h) ++ planBy t all hs r (gone ++ leftOf t all hs r gone) := rfl
/-- what the program keeps, in the midst: helpers that are built and not gone -/
def KeptIs (hs rest gone kept : List Nat) : Prop := kept.Nodup ∧ ∀ h, h ∈ kept ↔ h ∈ hs ∧ h ∉ rest ∧ h ∉ gone
def parentsOf (t : Table) (all r : List Nat) : List Int := r.map fun x => parentNumber (parentOf t all x)
theorem parents_has (t : Table) (all : List Nat) (h : Nat) (r : List Nat) : decide (((h : Nat) : Int) ∈ parentsOf t all r) = r.any fun x => parentOf t all x == some h := by
  rw [Bool.eq_iff_iff, decide_eq_true_iff, List.any_eq_true]
  unfold parentsOf
  rw [List.mem_map]
  constructor
  · rintro ⟨x, hx, e⟩
    refine ⟨x, hx, ?_⟩
    cases hp : parentOf t all x with
    | none =>
      rw [hp] at e
      have e : (-1 : Int) = (h : Nat) := e
      omega
    | some v =>
      rw [hp] at e
      have e : ((v : Nat) : Int) = (h : Nat) := e
      have : v = h := Int.ofNat_inj.mp e
      rw [this]
      exact beq_self_eq_true _
  · rintro ⟨x, hx, e⟩
    refine ⟨x, hx, ?_⟩
    rw [beq_iff_eq.mp e]
    rfl
/-- the helpers as the law lists them: in the midst's turn -/
theorem turn_left {t : Table} {all hs : List Nat} {g : Nat} {r gone kept : List Nat} {n : Nat} (hk : KeptIs hs (g :: r) gone kept) (hnd : (g :: r).Nodup) (hb : ∀ h ∈ hs, h < n) (hg : g ∈ hs → g ∉ gone) :
    (srt (kept ++ if hs.contains g then [g] else [])).filter (fun h => !decide (((h : Nat) : Int) ∈ parentsOf t all r)) = leftOf t all ((List.range n).filter fun h => hs.contains h) r gone ∧
    KeptIs hs r (gone ++ leftOf t all ((List.range n).filter fun h => hs.contains h) r gone) ((kept ++ if hs.contains g then [g] else []).filter fun h => decide (((h : Nat) : Int) ∈ parentsOf t all r)) := by
  have ng : g ∉ r := (List.nodup_cons.mp hnd).1
  have mem : ∀ h, h ∈ (kept ++ if hs.contains g then [g] else []) ↔ h ∈ hs ∧ h ∉ r ∧ h ∉ gone := fun h => by
    rw [List.mem_append, hk.2 h]
    constructor
    · rintro (⟨h1, h2, h3⟩ | h1)
      · exact ⟨h1, fun z => h2 (List.mem_cons_of_mem _ z), h3⟩
      · split at h1
        · rename_i hc
          have e : h = g := by simpa using h1
          rw [e]
          exact ⟨List.contains_iff_mem.mp hc, ng, hg (List.contains_iff_mem.mp hc)⟩
        · cases h1
    · rintro ⟨h1, h2, h3⟩
      by_cases e : h = g
      · right
        rw [← e, if_pos (List.contains_iff_mem.mpr h1)]
        exact List.mem_cons_self
      · left
        exact ⟨h1, fun z => (List.mem_cons.mp z).elim e h2, h3⟩
  have nd : (kept ++ if hs.contains g then [g] else []).Nodup := by
    split
    · rw [List.nodup_append]
      refine ⟨hk.1, by simp, fun a ha b hb e => ?_⟩
      have : b = g := by simpa using hb
      rw [this] at e
      rw [e] at ha
      exact ((hk.2 g).mp ha).2.1 List.mem_cons_self
    · rw [List.append_nil]
      exact hk.1
  have leftm : ∀ h, h ∈ leftOf t all ((List.range n).filter fun h => hs.contains h) r gone ↔ (h ∈ hs ∧ h ∉ r ∧ h ∉ gone) ∧ ¬ (r.any fun x => parentOf t all x == some h) = true := fun h => by
    unfold leftOf
    rw [List.mem_filter, List.mem_filter, List.mem_range, List.contains_iff_mem]
    simp only [Bool.and_eq_true, Bool.not_eq_true', ← Bool.not_eq_true, List.contains_iff_mem]
    constructor
    · rintro ⟨⟨_, h1⟩, h2, h3, h4⟩
      exact ⟨⟨h1, h3, h2⟩, h4⟩
    · rintro ⟨⟨h1, h3, h2⟩, h4⟩
      exact ⟨⟨hb h h1, h1⟩, h2, h3, h4⟩
  generalize (kept ++ if hs.contains g then [g] else []) = K0 at mem nd ⊢
  constructor
  · rw [srt_filter nd fun s hs' => hb s ((mem s).mp hs').1]
    unfold leftOf
    rw [List.filter_filter, List.filter_filter]
    refine List.filter_congr fun h _ => ?_
    rw [parents_has, Bool.eq_iff_iff]
    simp only [Bool.and_eq_true, Bool.not_eq_true', ← Bool.not_eq_true, List.contains_iff_mem]
    rw [mem h]
    constructor
    · rintro ⟨h4, h1, h2, h3⟩
      exact ⟨⟨h3, h2, h4⟩, h1⟩
    · rintro ⟨⟨h3, h2, h4⟩, h1⟩
      exact ⟨h4, h1, h2, h3⟩
  · refine ⟨nd.filter _, fun h => ?_⟩
    rw [List.mem_filter, mem h, parents_has, List.mem_append, leftm h]
    constructor
    · rintro ⟨⟨h1, h2, h3⟩, h4⟩
      exact ⟨h1, h2, fun z => z.elim h3 fun z => z.2 h4⟩
    · rintro ⟨h1, h2, h3⟩
      refine ⟨⟨h1, h2, fun z => h3 (.inl z)⟩, ?_⟩
      cases hq : (r.any fun x => parentOf t all x == some h) with
      | true => rfl
      | false => exact absurd (.inr ⟨⟨h1, h2, fun z => h3 (.inl z)⟩, by rw [hq]; decide⟩) h3
end BA

/-! pure: a plan runs to its end -/
namespace BA
open VamvsBase Vamvsa Vamvsd

theorem above_rank {t : Table} {u g : Nat} (h4 : width t ≤ 4) (hu : u < 2 ^ width t) (hg : g < 2 ^ width t) (h : above t u g = true) : rank t g < rank t u := by
  have key : ∀ (n : Fin 5) (u g : Fin 16), (u.1 != g.1 && canFrom n.1 u.1 g.1) = true → u.1 < 2 ^ n.1 → g.1 < 2 ^ n.1 → (columnsOf n.1 g.1).length < (columnsOf n.1 u.1).length := by decide +kernel
  exact key ⟨width t, by omega⟩ ⟨u, pow2_lt h4 hu⟩ ⟨g, pow2_lt h4 hg⟩ h hu hg
def go (t : Table) : List Step → Site → Option Site
  | [], s => some s
  | x :: r, s => (doStep t s x).bind (go t r)
theorem go_app (t : Table) : ∀ (l m : List Step) (s : Site), go t (l ++ m) s = (go t l s).bind (go t m)
  | [], m, s => rfl
  | x :: l, m, s => by
    show (doStep t s x).bind (go t (l ++ m)) = ((doStep t s x).bind (go t l)).bind (go t m)
    cases doStep t s x with
    | none => rfl
    | some u => exact go_app t l m u
theorem go_run (t : Table) : ∀ (l : List Step) (n : Nat) (s s' : Site), go t l s = some s' → runBy t n s l = (s', n + l.length)
  | [], n, s, s', h => by cases h; rfl
  | x :: l, n, s, s', h => by
    unfold go at h
    unfold runBy
    cases e : doStep t s x with
    | none => rw [e] at h; cases h
    | some u =>
      rw [e] at h
      have := go_run t l (n + 1) u s' h
      show runBy t (n + 1) u l = _
      rw [this, List.length_cons]
      congr 1
      omega
theorem go_drops (t : Table) : ∀ (L : List Nat) (s : Site), L.Nodup → (∀ h ∈ L, h ∈ s.built) → ∃ s', go t (L.map fun h => Step.drop h) s = some s' ∧ s'.cost = s.cost ∧ ∀ x, x ∈ s'.built ↔ x ∈ s.built ∧ x ∉ L
  | [], s, _, _ => ⟨s, rfl, rfl, fun x => by simp⟩
  | h :: L, s, nd, hb => by
    obtain ⟨n1, n2⟩ := List.nodup_cons.mp nd
    have hc : s.built.contains h = true := List.contains_iff_mem.mpr (hb h List.mem_cons_self)
    have hds : doStep t s (.drop h) = some { s with built := s.built.filter fun v => v != h } := if_neg (by rw [hc]; decide)
    obtain ⟨s', e1, e2, e3⟩ := go_drops t L { s with built := s.built.filter fun v => v != h } n2 fun x hx => List.mem_filter.mpr ⟨hb x (List.mem_cons_of_mem _ hx), bne_iff_ne.mpr fun z => n1 (by rw [← z]; exact hx)⟩
    refine ⟨s', ?_, e2, fun x => ?_⟩
    · show (doStep t s (.drop h)).bind (go t (L.map fun h => Step.drop h)) = _
      rw [hds]
      exact e1
    · rw [e3 x, List.mem_filter, bne_iff_ne, List.mem_cons]
      constructor
      · rintro ⟨⟨a, b⟩, c⟩
        exact ⟨a, fun z => z.elim b c⟩
      · rintro ⟨a, b⟩
        exact ⟨⟨a, fun z => b (.inl z)⟩, fun z => b (.inr z)⟩
theorem plan_runs {t : Table} {all hs : List Nat} (h4 : width t ≤ 4) (hall : ∀ g ∈ all, g < 2 ^ width t) (hhs : ∀ h ∈ hs, h ∈ all) (hnd : hs.Nodup) : ∀ (rest gone : List Nat) (s : Site), rest.Nodup → (∀ x ∈ rest, x ∈ all) → rest.Pairwise (fun p q => rank t q ≤ rank t p) →
    (∀ x, x ∈ s.built ↔ x ∈ all ∧ x ∉ rest ∧ x ∉ gone) → (∀ h ∈ gone, ∀ x ∈ rest, parentOf t all x ≠ some h) → (∀ h ∈ gone, h ∉ rest) →
    ∃ s', go t (planBy t all hs rest gone) s = some s' ∧ s'.cost = s.cost + (rest.map fun g => oneCost t (parentOf t all g) g).sum
  | [], gone, s, _, _, _, _, _, _ => ⟨s, rfl, rfl⟩
  | g :: r, gone, s, nd, hra, hpw, hbu, hgp, hgr => by
    obtain ⟨ng, ndr⟩ := List.nodup_cons.mp nd
    obtain ⟨hp1, hp2⟩ := List.pairwise_cons.mp hpw
    have hga := hra g List.mem_cons_self
    have hgb := hall g hga
    have hnb : ¬ s.built.contains g = true := fun z => ((hbu g).mp (List.contains_iff_mem.mp z)).2.1 List.mem_cons_self
    have hmake : doStep t s (makeOf t all g) = some (grown t s g (parentOf t all g)) := by
      unfold makeOf
      cases hpa : parentOf t all g with
      | none => exact if_neg hnb
      | some u =>
        obtain ⟨hu1, hu2⟩ := parentOf_mem hpa
        have hrk := above_rank h4 (hall u hu1) hgb hu2
        have hub : s.built.contains u = true := List.contains_iff_mem.mpr ((hbu u).mpr ⟨hu1, fun z => by
          rcases List.mem_cons.mp z with z | z
          · rw [z] at hrk; omega
          · have := hp1 u z
            omega, fun z => hgp u z g List.mem_cons_self hpa⟩)
        refine if_neg fun z => ?_
        rcases z with z | z | z
        · exact hnb z
        · rw [hub] at z; cases z
        · rw [hu2] at z; cases z
    have leftm : ∀ h, h ∈ leftOf t all hs r gone ↔ h ∈ hs ∧ h ∉ gone ∧ h ∉ r ∧ ∀ x ∈ r, parentOf t all x ≠ some h := fun h => by
      unfold leftOf
      rw [List.mem_filter]
      simp only [Bool.and_eq_true, Bool.not_eq_true', ← Bool.not_eq_true, List.contains_iff_mem, List.any_eq_true, beq_iff_eq, not_exists, not_and]
    have hbu2 : ∀ x, x ∈ (grown t s g (parentOf t all g)).built ↔ x ∈ all ∧ x ∉ r ∧ x ∉ gone := fun x => by
      show x ∈ s.built ++ [g] ↔ _
      rw [List.mem_append, hbu x, List.mem_singleton, List.mem_cons]
      constructor
      · rintro (⟨a, b, c⟩ | e)
        · exact ⟨a, fun z => b (.inr z), c⟩
        · rw [e]
          exact ⟨hga, ng, fun z => hgr g z List.mem_cons_self⟩
      · rintro ⟨a, b, c⟩
        by_cases e : x = g
        · exact .inr e
        · exact .inl ⟨a, fun z => z.elim e b, c⟩
    obtain ⟨s2, e1, e2, e3⟩ := go_drops t (leftOf t all hs r gone) (grown t s g (parentOf t all g)) (hnd.filter _) fun h hh => (hbu2 h).mpr ⟨hhs h ((leftm h).mp hh).1, ((leftm h).mp hh).2.2.1, ((leftm h).mp hh).2.1⟩
    obtain ⟨s', f1, f2⟩ := plan_runs h4 hall hhs hnd r (gone ++ leftOf t all hs r gone) s2 ndr (fun x hx => hra x (List.mem_cons_of_mem _ hx)) hp2 (fun x => by
      rw [e3 x, hbu2 x, List.mem_append]
      exact ⟨fun ⟨⟨a, b, c⟩, d⟩ => ⟨a, b, fun z => z.elim c d⟩, fun ⟨a, b, c⟩ => ⟨⟨a, b, fun z => c (.inl z)⟩, fun z => c (.inr z)⟩⟩) (fun h hh x hx => by
      rcases List.mem_append.mp hh with hh | hh
      · exact hgp h hh x (List.mem_cons_of_mem _ hx)
      · exact ((leftm h).mp hh).2.2.2 x hx) (fun h hh => by
      rcases List.mem_append.mp hh with hh | hh
      · exact fun z => hgr h hh (List.mem_cons_of_mem _ z)
      · exact ((leftm h).mp hh).2.2.1)
    refine ⟨s', ?_, ?_⟩
    · rw [planBy_cons]
      show (doStep t s (makeOf t all g)).bind (go t ((leftOf t all hs r gone).map (fun h => Step.drop h) ++ planBy t all hs r (gone ++ leftOf t all hs r gone))) = _
      rw [hmake]
      show go t _ (grown t s g (parentOf t all g)) = _
      rw [go_app, e1]
      exact f1
    · rw [f2, e2, List.map_cons, List.sum_cons]
      show s.cost + oneCost t (parentOf t all g) g + _ = _
      omega
theorem plan_oks {t : Table} {all hs : List Nat} (hall : ∀ g ∈ all, g < 2 ^ width t) (hhs : ∀ h ∈ hs, h < 2 ^ width t) : ∀ (rest gone : List Nat), (∀ x ∈ rest, x < 2 ^ width t) → ∀ st ∈ planBy t all hs rest gone, stepOk t st
  | [], _, _, _, h => nomatch h
  | g :: r, gone, hr, st, h => by
    rw [planBy_cons] at h
    rcases List.mem_append.mp h with h | h
    · rcases List.mem_cons.mp h with e | h
      · rw [e]
        have hg := hr g List.mem_cons_self
        unfold makeOf
        cases hpa : parentOf t all g with
        | none => exact hg
        | some u => exact ⟨hg, hall u (parentOf_mem hpa).1⟩
      · obtain ⟨x, hx, rfl⟩ := List.mem_map.mp h
        exact hhs x (List.mem_filter.mp hx).1
    · exact plan_oks hall hhs r _ (fun x hx => hr x (List.mem_cons_of_mem _ hx)) st h
theorem plan_len {t : Table} {all hs : List Nat} : ∀ (rest gone : List Nat), (planBy t all hs rest gone).length ≤ (1 + hs.length) * rest.length
  | [], _ => Nat.zero_le _
  | g :: r, gone => by
    rw [planBy_cons, List.length_append, List.length_cons, List.length_map, List.length_cons, Nat.mul_succ]
    have := plan_len (t := t) (all := all) (hs := hs) r (gone ++ leftOf t all hs r gone)
    have h2 : (leftOf t all hs r gone).length ≤ hs.length := List.length_filter_le _ _
    omega
theorem rank_pw (t : Table) (l : List Nat) : (inRank t l).Pairwise fun p q => rank t q ≤ rank t p := by
  unfold inRank
  rw [List.pairwise_flatMap]
  constructor
  · intro n hn
    refine List.Pairwise.imp_of_mem ?_ (List.pairwise_of_forall (l := ((groupings t).filter fun g => l.contains g).filter fun g => rank t g == n) (R := fun _ _ => True) fun _ _ => trivial)
    intro p q hp hq _
    have a := beq_iff_eq.mp (List.mem_filter.mp hp).2
    have b := beq_iff_eq.mp (List.mem_filter.mp hq).2
    omega
  · rw [List.pairwise_reverse]
    refine List.Pairwise.imp_of_mem ?_ List.pairwise_lt_range
    intro n k hn hk hlt p hp q hq
    have a := beq_iff_eq.mp (List.mem_filter.mp hp).2
    have b := beq_iff_eq.mp (List.mem_filter.mp hq).2
    have hlt : n < k := hlt
    omega
theorem plan_cost {t : Table} {W hs : List Nat} (h4 : width t ≤ 4) (nd : (W ++ hs).Nodup) (hb : ∀ g ∈ W ++ hs, g < 2 ^ width t) (ho : (inRank t (W ++ hs)).Perm (W ++ hs)) : (run t (planOf t W hs)).1.cost = buildCost t (W ++ hs) ∧ (∀ st ∈ planOf t W hs, stepOk t st) ∧ (planOf t W hs).length ≤ 17 * (W ++ hs).length := by
  have hsub : ∀ h ∈ (groupings t).filter (fun g => hs.contains g), h ∈ W ++ hs := fun h hh => List.mem_append.mpr (.inr (List.contains_iff_mem.mp (List.mem_filter.mp hh).2))
  obtain ⟨s', h1, h2⟩ := plan_runs (t := t) (all := W ++ hs) (hs := (groupings t).filter fun g => hs.contains g) h4 hb hsub (List.nodup_range.filter _) (inRank t (W ++ hs)) [] ⟨[], 0, 0⟩ (ho.nodup_iff.mpr nd) (fun x hx => ho.mem_iff.mp hx) (rank_pw t _) (fun x => by
    constructor
    · intro h; cases h
    · rintro ⟨a, b, _⟩
      exact absurd (ho.mem_iff.mpr a) b) (fun h hh => nomatch hh) (fun h hh => nomatch hh)
  refine ⟨?_, fun st hst => plan_oks hb (fun h hh => List.mem_range.mp (List.mem_filter.mp hh).1) _ _ (fun x hx => hb x (ho.mem_iff.mp hx)) st hst, ?_⟩
  · unfold run
    rw [show planOf t W hs = planBy t (W ++ hs) ((groupings t).filter fun g => hs.contains g) (inRank t (W ++ hs)) [] from rfl, go_run t _ 0 _ _ h1]
    show s'.cost = _
    rw [h2]
    show 0 + _ = _
    rw [Nat.zero_add]
    exact (ho.map _).sum_nat
  · have := plan_len (t := t) (all := W ++ hs) (hs := (groupings t).filter fun g => hs.contains g) (inRank t (W ++ hs)) []
    have hl : ((groupings t).filter fun g => hs.contains g).length ≤ 16 := by
      refine Nat.le_trans (List.length_filter_le _ _) ?_
      show (List.range _).length ≤ 16
      rw [List.length_range]
      exact pow_le16 h4
    rw [ho.length_eq] at this
    refine Nat.le_trans this (Nat.mul_le_mul (by omega) (Nat.le_refl _))
end BA

/-! pure: steps told by twos -/
namespace BA
open VamvsBase Vamvsa Vamvsd

def twos : List Int → List (Int × Int)
  | g :: u :: r => (g, u) :: twos r
  | _ => []
def pairOk (n : Int) (p : Int × Int) : Bool := (decide (0 ≤ p.1) && decide (p.1 < n)) && (decide (p.2 ∈ [(-1 : Int), -2]) || (decide (0 ≤ p.2) && decide (p.2 < n)))
def mkStep (p : Int × Int) : Step := if p.2 = -1 then .table p.1.toNat else if p.2 = -2 then .drop p.1.toNat else .from_ p.1.toNat p.2.toNat
theorem steps_twos (n : Nat) (hn : 1 ≤ n) : ∀ (f : Nat) (l : List Int), l.length < f → (l.length % 2 = 1 → stepsOf n f l = none) ∧ (l.length % 2 = 0 → stepsOf n f l = if (twos l).all (pairOk n) = true then some ((twos l).map mkStep) else none)
  | 0, l, h => absurd h (Nat.not_lt_zero _)
  | f + 1, [], _ => ⟨fun h => (by cases h), fun _ => rfl⟩
  | f + 1, [g], _ => ⟨fun _ => rfl, fun h => (by cases h)⟩
  | f + 1, g :: u :: r, h => by
    have hl : (g :: u :: r).length = r.length + 2 := rfl
    rw [hl] at h ⊢
    obtain ⟨i1, i2⟩ := steps_twos n hn f r (by omega)
    have e : stepsOf n (f + 1) (g :: u :: r) = if g < 0 ∨ (n : Int) ≤ g ∨ u < -2 ∨ (n : Int) ≤ u then none else (stepsOf n f r).map fun l => mkStep (g, u) :: l := rfl
    have ep : pairOk n (g, u) = !decide (g < 0 ∨ (n : Int) ≤ g ∨ u < -2 ∨ (n : Int) ≤ u) := by
      unfold pairOk
      rw [Bool.eq_iff_iff]
      simp only [Bool.and_eq_true, Bool.or_eq_true, decide_eq_true_eq, Bool.not_eq_true', decide_eq_false_iff_not, List.mem_cons, List.not_mem_nil, or_false]
      omega
    rw [e]
    constructor
    · intro ho
      rw [i1 (by omega)]
      split <;> rfl
    · intro he
      rw [i2 (by omega)]
      show _ = if ((g, u) :: twos r).all (pairOk n) = true then some (((g, u) :: twos r).map mkStep) else none
      rw [List.all_cons, ep]
      by_cases hc : g < 0 ∨ (n : Int) ≤ g ∨ u < -2 ∨ (n : Int) ≤ u
      · rw [if_pos hc, decide_eq_true hc]
        rfl
      · rw [if_neg hc, decide_eq_false hc]
        cases (twos r).all (pairOk n) <;> rfl
theorem twos_get : ∀ (l : List Int) (i : Nat), l.length % 2 = 0 → i < l.length / 2 → (twos l)[i]? = some (l.getD (2 * i) 0, l.getD (2 * i + 1) 0)
  | [], i, _, h => absurd h (Nat.not_lt_zero _)
  | [_], i, h, _ => by cases h
  | g :: u :: r, 0, _, _ => rfl
  | g :: u :: r, i + 1, h, h2 => by
    have hl : (g :: u :: r).length = r.length + 2 := rfl
    rw [hl] at h h2
    have := twos_get r i (by omega) (by omega)
    show (twos r)[i]? = _
    rw [this]
    rfl
theorem twos_len : ∀ (l : List Int), l.length % 2 = 0 → (twos l).length = l.length / 2
  | [], _ => rfl
  | [_], h => by cases h
  | g :: u :: r, h => by
    have hl : (g :: u :: r).length = r.length + 2 := rfl
    rw [hl] at h ⊢
    show (twos r).length + 1 = _
    rw [twos_len r (by omega)]
    omega
theorem mk_ok {t : Table} {p : Int × Int} (h : pairOk ((2 ^ width t : Nat) : Int) p = true) : stepOk t (mkStep p) ∧ ((stepPair (mkStep p)).1 : Int) = p.1 ∧ (stepPair (mkStep p)).2 = p.2 := by
  obtain ⟨g, u⟩ := p
  unfold pairOk at h
  simp only [Bool.and_eq_true, Bool.or_eq_true, decide_eq_true_eq, List.mem_cons, List.not_mem_nil, or_false] at h
  unfold mkStep
  have hA : 0 ≤ g ∧ g < ((2 ^ width t : Nat) : Int) := h.1
  have hB : (u = -1 ∨ u = -2) ∨ 0 ≤ u ∧ u < ((2 ^ width t : Nat) : Int) := h.2
  have hg := Int.toNat_of_nonneg hA.1
  have hgb : g.toNat < 2 ^ width t := (Int.toNat_lt hA.1).mpr hA.2
  by_cases h1 : u = -1
  · subst h1
    exact ⟨hgb, hg, rfl⟩
  · by_cases h2 : u = -2
    · subst h2
      exact ⟨hgb, hg, rfl⟩
    · rw [if_neg h1, if_neg h2]
      have hu : 0 ≤ u ∧ u < ((2 ^ width t : Nat) : Int) := by omega
      have hu2 := Int.toNat_of_nonneg hu.1
      exact ⟨⟨hgb, (Int.toNat_lt hu.1).mpr hu.2⟩, hg, hu2⟩
theorem same_iff {t : Table} {b w : List Nat} (hb : b.Nodup) (hbb : ∀ x ∈ b, x < 2 ^ width t) (hw : (groupings t).filter (fun g => w.contains g) = w) : decide (srt b = w) = same b w := by
  have hwn : w.Nodup := by rw [← hw]; exact List.nodup_range.filter _
  rw [Bool.eq_iff_iff, decide_eq_true_iff]
  unfold same
  rw [Bool.and_eq_true, List.all_eq_true, List.all_eq_true]
  constructor
  · intro e
    refine ⟨fun x hx => List.contains_iff_mem.mpr (by rw [← e]; exact srt_mem.mpr hx), fun x hx => List.contains_iff_mem.mpr (by rw [← e] at hx; exact srt_mem.mp hx)⟩
  · rintro ⟨h1, h2⟩
    rw [srt_filter hb hbb, ← hw]
    refine List.filter_congr fun x _ => ?_
    rw [Bool.eq_iff_iff, List.contains_iff_mem, List.contains_iff_mem]
    exact ⟨fun h => List.contains_iff_mem.mp (h1 x h), fun h => List.contains_iff_mem.mp (h2 x h)⟩
end BA

/-! pure: the calls, one behind another -/
namespace BA
open VamvsBase Vamvsd
open VamvsdNeutral (encode bytesOf)

def callN (k : Nat) (l : List Int) : Vamvsd.Call := match k with
  | 0 => .load (bytesOf l)
  | 1 => .shown
  | 2 => .wish l
  | 3 => .plain
  | 4 => .best
  | 5 => .check l
  | 6 => .idle
  | 7 => .from_ (l.headD 0)
  | _ => .help l
def preN (k : Nat) (l : List Int) : Prop := (k = 0 → (∀ b ∈ l, 0 ≤ b ∧ b < 256) ∧ l.length ≤ 8192) ∧ (k = 7 → ∃ g, l = [g]) ∧ (k ≠ 0 → l.length ≤ 2000)
/-- what one call reads: its number, its list, what is left -/
def Reads1 (p : Int) (r : List Int) (k : Nat) (x t : List Int) : Prop := p = (k : Int) ∧ k ≤ 8 ∧
  (((k = 0 ∨ k = 2 ∨ k = 5 ∨ k = 8) ∧ r = (x.length : Int) :: (x ++ t)) ∨ (k = 7 ∧ ∃ g, x = [g] ∧ r = g :: t) ∨ ((k = 1 ∨ k = 3 ∨ k = 4 ∨ k = 6) ∧ x = [] ∧ r = t))
theorem row_inv {r : List Int} {x t : List Int} (h : PyFlat.row r = some (x, t)) : r = (x.length : Int) :: (x ++ t) := by
  cases r with
  | nil => cases h
  | cons n r =>
    have h : (if 0 ≤ n ∧ n.toNat ≤ r.length then some (r.take n.toNat, r.drop n.toNat) else none) = some (x, t) := h
    by_cases hc : 0 ≤ n ∧ n.toNat ≤ r.length
    · rw [if_pos hc] at h
      cases h
      rw [List.take_append_drop, List.length_take, Nat.min_eq_left hc.2, Int.toNat_of_nonneg hc.1]
    · rw [if_neg hc] at h
      cases h
theorem call_inv {p : Int} {r : List Int} {c : List (List Int)} {t : List Int} (h : PyFlat.call PyVamvsd.shape (p :: r) = some (c, t)) (ha : VamvsdNeutral.asked1 (PyVamvsd.whole c) = true) :
    ∃ k x, Reads1 p r k x t ∧ preN k x ∧ ∀ s, VamvsdNeutral.step s (PyVamvsd.whole c) = ((Vamvsd.step s (callN k x)).1, encode (Vamvsd.step s (callN k x)).2) := by
  have one : ∀ {c : List (List Int)} {t : List Int}, (match PyFlat.rows 1 r with
      | none => none
      | some (xs, t) => some ((p :: r.take 0) :: xs, t)) = some (c, t) → ∃ x, r = (x.length : Int) :: (x ++ t) ∧ c = [[p], x] := by
    intro c t h
    unfold PyFlat.rows at h
    cases hr : PyFlat.row r with
    | none => rw [hr] at h; cases h
    | some xt =>
      obtain ⟨x, t2⟩ := xt
      rw [hr] at h
      have h : some ((p :: r.take 0) :: [x], t2) = some (c, t) := h
      cases h
      exact ⟨x, row_inv hr, rfl⟩
  unfold PyFlat.call at h
  by_cases h0 : p = 0
  · subst h0
    obtain ⟨x, hr, rfl⟩ := one h
    have ha : ((x.all fun z => VamvsdNeutral.natural z 8) && decide (x.length ≤ 8192)) = true := ha
    rw [Bool.and_eq_true, decide_eq_true_iff, List.all_eq_true] at ha
    have hb : ∀ b ∈ x, 0 ≤ b ∧ b < 256 := fun b hb => by
      have := ha.1 b hb
      unfold VamvsdNeutral.natural at this
      rw [Bool.and_eq_true, decide_eq_true_iff, decide_eq_true_iff] at this
      exact this
    refine ⟨0, x, ⟨rfl, by decide, .inl ⟨.inl rfl, hr⟩⟩, ⟨fun _ => ⟨hb, ha.2⟩, (fun z => absurd z (by decide)), fun z => absurd rfl z⟩, fun s => ?_⟩
    have hbb : NeutralIO.bytes x = true := List.all_eq_true.mpr fun b hb' => by
      have := hb b hb'
      rw [Bool.and_eq_true, decide_eq_true_iff, decide_eq_true_iff]
      omega
    show (match (if NeutralIO.bytes x = true then some (Vamvsd.Call.load (bytesOf x)) else none) with
      | some k => ((Vamvsd.step s k).1, encode (Vamvsd.step s k).2)
      | none => (s, [-99])) = _
    rw [if_pos hbb]
    rfl
  by_cases h1 : p = 1
  · subst h1
    have h : some ([[1]], r) = some (c, t) := h
    cases h
    exact ⟨1, [], ⟨rfl, by decide, .inr (.inr ⟨.inl rfl, rfl, rfl⟩)⟩, ⟨(fun z => absurd z (by decide)), (fun z => absurd z (by decide)), fun _ => Nat.zero_le _⟩, fun s => rfl⟩
  by_cases h2 : p = 2
  · subst h2
    obtain ⟨x, hr, rfl⟩ := one h
    have ha : ((x.all VamvsdNeutral.whole60) && decide (x.length ≤ 2000)) = true := ha
    rw [Bool.and_eq_true, decide_eq_true_iff] at ha
    exact ⟨2, x, ⟨rfl, by decide, .inl ⟨.inr (.inl rfl), hr⟩⟩, ⟨(fun z => absurd z (by decide)), (fun z => absurd z (by decide)), fun _ => ha.2⟩, fun s => rfl⟩
  by_cases h3 : p = 3
  · subst h3
    have h : some ([[3]], r) = some (c, t) := h
    cases h
    exact ⟨3, [], ⟨rfl, by decide, .inr (.inr ⟨.inr (.inl rfl), rfl, rfl⟩)⟩, ⟨(fun z => absurd z (by decide)), (fun z => absurd z (by decide)), fun _ => Nat.zero_le _⟩, fun s => rfl⟩
  by_cases h4 : p = 4
  · subst h4
    have h : some ([[4]], r) = some (c, t) := h
    cases h
    exact ⟨4, [], ⟨rfl, by decide, .inr (.inr ⟨.inr (.inr (.inl rfl)), rfl, rfl⟩)⟩, ⟨(fun z => absurd z (by decide)), (fun z => absurd z (by decide)), fun _ => Nat.zero_le _⟩, fun s => rfl⟩
  by_cases h5 : p = 5
  · subst h5
    obtain ⟨x, hr, rfl⟩ := one h
    have ha : ((x.all VamvsdNeutral.whole60) && decide (x.length ≤ 2000)) = true := ha
    rw [Bool.and_eq_true, decide_eq_true_iff] at ha
    exact ⟨5, x, ⟨rfl, by decide, .inl ⟨.inr (.inr (.inl rfl)), hr⟩⟩, ⟨(fun z => absurd z (by decide)), (fun z => absurd z (by decide)), fun _ => ha.2⟩, fun s => rfl⟩
  by_cases h6 : p = 6
  · subst h6
    have h : some ([[6]], r) = some (c, t) := h
    cases h
    exact ⟨6, [], ⟨rfl, by decide, .inr (.inr ⟨.inr (.inr (.inr rfl)), rfl, rfl⟩)⟩, ⟨(fun z => absurd z (by decide)), (fun z => absurd z (by decide)), fun _ => Nat.zero_le _⟩, fun s => rfl⟩
  by_cases h7 : p = 7
  · subst h7
    have h : (if r.length < 1 then none else some ((7 :: r.take 1) :: [], r.drop 1)) = some (c, t) := h
    cases r with
    | nil => cases h
    | cons g r =>
      rw [if_neg (by show ¬ r.length + 1 < 1; omega)] at h
      cases h
      exact ⟨7, [g], ⟨rfl, by decide, .inr (.inl ⟨rfl, g, rfl, rfl⟩)⟩, ⟨(fun z => absurd z (by decide)), fun _ => ⟨g, rfl⟩, fun _ => (by show 1 ≤ 2000; decide)⟩, fun s => rfl⟩
  by_cases h8 : p = 8
  · subst h8
    obtain ⟨x, hr, rfl⟩ := one h
    have ha : ((x.all VamvsdNeutral.whole60) && decide (x.length ≤ 2000)) = true := ha
    rw [Bool.and_eq_true, decide_eq_true_iff] at ha
    exact ⟨8, x, ⟨rfl, by decide, .inl ⟨.inr (.inr (.inr rfl)), hr⟩⟩, ⟨(fun z => absurd z (by decide)), (fun z => absurd z (by decide)), fun _ => ha.2⟩, fun s => rfl⟩
  · have hs : PyVamvsd.shape p = none := by
      unfold PyVamvsd.shape
      rw [if_neg h0, if_neg h1, if_neg h2, if_neg h3, if_neg h4, if_neg h5, if_neg h6, if_neg h7, if_neg h8]
    have h : (match PyVamvsd.shape p with
      | none => none
      | some (n, k) => if r.length < n then none else match PyFlat.rows k (r.drop n) with
        | none => none
        | some (xs, t) => some ((p :: r.take n) :: xs, t)) = some (c, t) := h
    rw [hs] at h
    cases h
theorem told_cons (a : List Int) (l : List (List Int)) : PyFlat.told (a :: l) = ((a.length : Int) :: a) ++ PyFlat.told l := rfl
end BA

namespace BA
open PySem PySem.Spec PyProof.Rows L2 Evl
open VamvsBase (Bytes)

/-! ### the signs of a text, the kinds of bytes -/
def bv (b : Bytes) : List V := b.map fun c => V.int (c.toNat : Int)
def codes (z : Str) : List V := z.cps.toList.map fun c : Nat => V.int ((c : Nat) : Int)
def sp_signs_of : Sp := fun vs H Q _ => ∃ z : Str, vs = [.str z] ∧ z.length ≤ 40000 ∧ RetU (codes z) H Q
def sp_is_digit : Sp := fun vs H Q _ => ∃ n : Int, vs = [.int n] ∧ RetV (.bl (decide (48 ≤ n) && decide (n ≤ 57))) H Q
def sp_is_letter : Sp := fun vs H Q _ => ∃ n : Int, vs = [.int n] ∧ RetV (.bl ((decide (65 ≤ n) && decide (n ≤ 90)) || (decide (97 ≤ n) && decide (n ≤ 122)))) H Q
section
variable {P : Program} {w : World} {K : PySem.W.Frag} {mg : Str → Option Value} {base : Heap} {a : Ad}
theorem ok_signs_of (T : Txt K mg a) : Good P w K mg base 1 a.f_signs_of ["word"] sp_signs_of := by
  obtain ⟨fd, F⟩ := T.F_signs_of
  refine ⟨⟨fd, F.okX sc_signs_of (fun vs H Q E h => ?_) (fun cdv A outer s H vs Q E hr h => ⟨_, (pss_one (ps_ret (pe_callTy call_tuple_of (by rfl) T.b_tuple (by decide +kernel) (pa_cons (pe_lc (own := [("sign", 1)]) rfl sc_signs_of.nd (pi_str (pv 0)) (blkOk_by (own := [("sign", 1)]) (N := ["word", "sign"]) (sc := defScope s_signs_of) (by decide +kernel)) (fun _ _ _ _ _ => (pg_name (i := 1) sc_signs_of.nd rfl (Or.inl rfl))) (fun _ _ _ _ _ => pts_nil) (fun _ _ _ _ _ => (pe_callB call_ord (by rfl) T.b_ord (by decide +kernel) (pa_cons (pv 1) pa_nil)))) pa_nil)))), ?_⟩), F.binds fun _ _ _ _ _ _ us hl => match us, hl with | [_], _ => rfl⟩, T.k_signs_of⟩
  · obtain ⟨z, rfl, _⟩ := h
    rfl
  · obtain ⟨z, rfl, hz, k⟩ := h
    exact s_retU (eu_tupL (el_lcS _ (ev_var rfl) hz (fun _ => rfl) fun c H1 _ _ => ev_cb (ea_cons (ev_var rfl) ea_nil) fun H2 e2 Q q => ⟨_, rfl, rfl, q H2 (Ex.refl _)⟩)) k
theorem ok_is_digit (T : Txt K mg a) : Good P w K mg base 1 a.f_is_digit ["byte"] sp_is_digit := by
  obtain ⟨fd, F⟩ := T.F_is_digit
  refine ⟨⟨fd, F.okX sc_is_digit (fun vs H Q E h => ?_) (fun cdv A outer s H vs Q E hr h => ⟨_, (pss_one (ps_ret (pe_chain op_le op_le pe_int (pv 0) pe_int))), ?_⟩), F.binds fun _ _ _ _ _ _ us hl => match us, hl with | [_], _ => rfl⟩, T.k_is_digit⟩
  · obtain ⟨z, rfl, _⟩ := h
    rfl
  · obtain ⟨z, rfl, k⟩ := h
    exact s_ret (ev_chain ev_c (ev_var rfl) rv_I0 (fun _ => ev_c) fun _ => rv_I0) k
theorem ok_is_letter (T : Txt K mg a) : Good P w K mg base 1 a.f_is_letter ["byte"] sp_is_letter := by
  obtain ⟨fd, F⟩ := T.F_is_letter
  refine ⟨⟨fd, F.okX sc_is_letter (fun vs H Q E h => ?_) (fun cdv A outer s H vs Q E hr h => ⟨_, (pss_one (ps_ret (pe_or (pe_chain op_le op_le pe_int (pv 0) pe_int) (pe_one (pe_chain op_le op_le pe_int (pv 0) pe_int))))), ?_⟩), F.binds fun _ _ _ _ _ _ us hl => match us, hl with | [_], _ => rfl⟩, T.k_is_letter⟩
  · obtain ⟨z, rfl, _⟩ := h
    rfl
  · obtain ⟨z, rfl, k⟩ := h
    exact s_ret (ev_orV (ev_chain ev_c (ev_var rfl) rv_I0 (fun _ => ev_c) fun _ => rv_I0) fun _ => ev_chain ev_c (ev_var rfl) rv_I0 (fun _ => ev_c) fun _ => rv_I0) k
end
end BA

namespace BA
open PySem PySem.Spec PyProof.Rows L2 Evl
open VamvsBase (Bytes Fault PTok Toks)

/-! ### places in a text -/
theorem bv_len (b : Bytes) : (bv b).length = b.length := List.length_map ..
theorem bv_app (p l : Bytes) : bv (p ++ l) = bv p ++ bv l := List.map_append ..
theorem bv_at {p l : Bytes} {c : UInt8} : atI (bv (p ++ c :: l)) (p.length : Int) = some (V.int (c.toNat : Int)) := by
  refine atI_nat ?_
  rw [bv_app, List.getElem?_append_right (by rw [bv_len]; exact Nat.le_refl _), bv_len, Nat.sub_self]
  rfl
theorem len_app_pos {p l : Bytes} {c : UInt8} : decide ((p.length : Int) < (((bv (p ++ c :: l)).length : Nat) : Int)) = true := by
  rw [bv_len, List.length_append, List.length_cons]
  exact decide_eq_true (by omega)
theorem len_app_end {p : Bytes} : decide ((p.length : Int) < (((bv (p ++ [])).length : Nat) : Int)) = false := by
  rw [bv_len, List.append_nil]
  exact decide_eq_false (by omega)
/-- at < len(text), then a test of the byte there -/
abbrev rLtI : R2 := rI0 fun i j => .bl (decide (i < j))
abbrev tAtLt (K : PySem.W.Frag) (i j : Nat) : TT := tTest (tOp rLtI (tVar j) (tCB (rLenS K) (tCons (tVar i) tNil)))
section
variable {K : PySem.W.Frag} {H : Hp} {t : Addr} {σ : L2.St}
theorem et_at {i j : Nat} {b : Bytes} {n : Nat} (h0 : σ[i]? = some (some (.ref t))) (h1 : σ[j]? = some (some (.int n))) (hx : SqL K H t (bv b)) : EvT (tAtLt K i j) σ H (decide ((n : Int) < (((bv b).length : Nat) : Int))) :=
  et_test (ev_op (ev_var h1) (ev_len (ev_var h0) hx) rv_I0)
/-- while at < len(text) and f(text[at]): at += 1 -/
theorem scan {b : Bytes} {f : UInt8 → Bool} {tst : TT} {D : Ends} {H0 : Hp} (h : ∀ (p r : Bytes) (c : UInt8) H', Ex H0 H' → b = p ++ c :: r → EvT tst [some (.ref t), some (.int p.length)] H' (f c)) (p l : Bytes) (hb : b = p ++ l) (hx : SqL K H0 t (bv b))
    (k : ∀ H', Ex H0 H' → D.nx [some (.ref t), some (.int ((p ++ l.takeWhile f).length : Nat))] H') : tWhile (tAnd (tAtLt K 0 1) tst) (tAug 1 (tC (.int 1)) (ipI fun i j => i + j)) D [some (.ref t), some (.int p.length)] H0 := by
  refine s_while (fun m σ' H' => ∃ q r : Bytes, b = p ++ (q ++ r) ∧ σ' = [some (.ref t), some (.int ((p ++ q).length : Nat))] ∧ Ex H0 H' ∧ l.takeWhile f = q ++ r.takeWhile f ∧ m = r.length) l.length ⟨[], l, hb, by rw [List.append_nil], Ex.refl _, rfl, rfl⟩ ?_
  rintro m σ' H' ⟨q, r, hb', rfl, e, ht, rfl⟩
  cases r with
  | nil =>
    refine ⟨false, et_is (et_and (b := false) (et_at rfl rfl (ex_l e hx)) fun z => ?_) (Bool.and_false _), fun z => (nomatch z), fun _ H1 e1 => ?_⟩
    · rw [hb', ← List.append_assoc, len_app_end] at z
      cases z
    · have := k H1 (e.trans e1)
      rw [ht] at this
      simpa using this
  | cons c r =>
    have hb2 : b = (p ++ q) ++ c :: r := by rw [hb', List.append_assoc]
    have hlt : decide (((p ++ q).length : Int) < (((bv b).length : Nat) : Int)) = true := by rw [hb2]; exact len_app_pos
    refine ⟨f c, et_is (et_and (et_at rfl rfl (ex_l e hx)) fun _ => h (p ++ q) r c H' e hb2) (by rw [hlt, Bool.true_and]), fun hf H1 e1 => ?_, fun hf H1 e1 => ?_⟩
    · refine ⟨fun σ2 H2 => σ2 = [some (.ref t), some (.int ((p ++ (q ++ [c])).length : Nat))] ∧ Ex H0 H2, ?_, s_aug rfl ev_c fun H2 e2 => ⟨?_, (e.trans e1).trans e2⟩⟩
      · rintro σ2 H2 ⟨rfl, e2⟩
        refine ⟨r.length, Nat.lt_succ_self _, q ++ [c], r, ?_, rfl, e2, ?_, rfl⟩
        · rw [hb']; simp
        · rw [ht, List.takeWhile_cons, if_pos hf]; simp
      · show [some (V.ref t), some (V.int (((p ++ q).length : Int) + 1))] = _
        rw [← List.append_assoc, List.length_append (bs := [c])]
        rfl
    · have := k H1 (e.trans e1)
      rw [ht, List.takeWhile_cons, if_neg (by rw [hf]; decide)] at this
      simpa using this
end

def isAlnum (c : UInt8) : Bool := VamvsBase.isLetter c || VamvsBase.isDigit c
theorem isLetter_eq (c : UInt8) : ((decide ((65 : Int) ≤ c.toNat) && decide ((c.toNat : Int) ≤ 90)) || (decide ((97 : Int) ≤ c.toNat) && decide ((c.toNat : Int) ≤ 122))) = VamvsBase.isLetter c := by
  unfold VamvsBase.isLetter
  rw [Bool.eq_iff_iff]
  simp only [Bool.or_eq_true, Bool.and_eq_true, decide_eq_true_eq]
  omega
theorem isDigit_eq (c : UInt8) : (decide ((48 : Int) ≤ c.toNat) && decide ((c.toNat : Int) ≤ 57)) = VamvsBase.isDigit c := by
  unfold VamvsBase.isDigit
  rw [Bool.eq_iff_iff]
  simp only [Bool.and_eq_true, decide_eq_true_eq]
  omega
theorem isBlank_eq (c : UInt8) : inV (.int c.toNat) [.int 32, .int 9, .int 10] = VamvsBase.isBlank c := by
  have h : ∀ n : Nat, n < 256 → ((32 == (n : Int)) || ((9 == (n : Int)) || ((10 == (n : Int)) || false))) = ((UInt8.ofNat n == 32) || ((UInt8.ofNat n == 9) || (UInt8.ofNat n == 10))) := by decide +kernel
  have e := h c.toNat c.toNat_lt
  rw [UInt8.ofNat_toNat] at e
  exact e
theorem eqI_byte (c : UInt8) (k : UInt8) : decide (V.int (c.toNat : Int) = V.int (k.toNat : Int)) = (c == k) := by
  rw [Bool.eq_iff_iff, decide_eq_true_iff, beq_iff_eq]
  constructor
  · intro e
    injection e with e
    exact UInt8.toNat_inj.mp (by omega)
  · rintro rfl
    rfl

def sp_behind_blanks (K : PySem.W.Frag) : Sp := fun vs H Q _ => ∃ (t : Addr) (p l : Bytes), vs = [.ref t, .int p.length] ∧ SqL K H t (bv (p ++ l)) ∧ ∀ q, l = q ++ skip l → RetV (.int ((p ++ q).length : Nat)) H Q
def sp_behind_name (K : PySem.W.Frag) : Sp := fun vs H Q _ => ∃ (t : Addr) (p l : Bytes), vs = [.ref t, .int p.length] ∧ SqL K H t (bv (p ++ l)) ∧ RetV (.int ((p ++ l.takeWhile isAlnum).length : Nat)) H Q
def sp_behind_digits (K : PySem.W.Frag) : Sp := fun vs H Q _ => ∃ (t : Addr) (p l : Bytes), vs = [.ref t, .int p.length] ∧ SqL K H t (bv (p ++ l)) ∧ RetV (.int ((p ++ l.takeWhile VamvsBase.isDigit).length : Nat)) H Q
section
variable {P : Program} {w : World} {K : PySem.W.Frag} {mg : Str → Option Value} {base : Heap} {a : Ad} {H : Hp} {t : Addr} {σ : L2.St}
theorem ev_byte {i j : Nat} {p r : Bytes} {c : UInt8} (h0 : σ[i]? = some (some (.ref t))) (h1 : σ[j]? = some (some (.int p.length))) (hx : SqL K H t (bv (p ++ c :: r))) : Ev (tOp (rIxL K) (tVar i) (tVar j)) σ H (.int (c.toNat : Int)) :=
  ev_op (ev_var h0) (ev_var h1) (rv_ixL hx bv_at)
theorem spv_letter {n : Int} : SpV sp_is_letter [.int n] H (.bl ((decide (65 ≤ n) && decide (n ≤ 90)) || (decide (97 ≤ n) && decide (n ≤ 122)))) := fun H1 _ Q q E => ⟨n, rfl, q⟩
theorem spv_digit {n : Int} : SpV sp_is_digit [.int n] H (.bl (decide (48 ≤ n) && decide (n ≤ 57))) := fun H1 _ Q q E => ⟨n, rfl, q⟩
theorem ok_behind_name (T : Txt K mg a) : Good P w K mg base 2 a.f_behind_name ["text", "at"] (sp_behind_name K) := by
  obtain ⟨fd, F⟩ := T.F_behind_name
  refine ⟨⟨fd, F.okX sc_behind_name (fun vs H Q E h => ?_) (fun cdv A outer s H vs Q E hr h => ⟨_, (pss_cons (ps_while (passes_of rfl) (PW.pt (pw_and (pt_cmpR op_lt (pv 1) (pe_callB call_len_seq (by rfl) T.b_len (by decide +kernel) (pa_cons (pv 0) pa_nil)) (nomark _)) (pw_and1 (PW.pt (pw_or (pt_val (pe_g (ok_is_letter T) (hr.mono (by decide)) rfl T.m_is_letter (E := fun _ => E0) px0 (pa_cons (pe_ix ix_list (pv 0) (pv 1) (fun _ _ => rfl)) pa_nil))) (pw_or1 (pt_val (pe_g (ok_is_digit T) (hr.mono (by decide)) rfl T.m_is_digit (E := fun _ => E0) px0 (pa_cons (pe_ix ix_list (pv 0) (pv 1) (fun _ _ => rfl)) pa_nil)))))))))
      (pss_one (ps_aug (i := 1) sc_behind_name.nd rfl (Or.inl rfl) pe_int ip_add)))
    (pss_one (ps_ret (pv 1)))), ?_⟩), F.binds fun _ _ _ _ _ _ us hl => match us, hl with | [_, _], _ => rfl⟩, T.k_behind_name⟩
  · obtain ⟨t, p, l, rfl, _⟩ := h
    rfl
  · obtain ⟨t, p, l, rfl, hx, k⟩ := h
    refine scan (D := { nx := _, rt := Q }) (b := p ++ l) (f := isAlnum) (fun p' r c H' e hb => ?_) p l rfl hx fun H' e => s_ret (ev_var rfl) fun H1 e1 => k H1 (e.trans e1)
    have hx' := ex_l e hx
    rw [hb] at hx'
    refine et_is (et_or (et_B (ev_g (ea_cons (ev_byte rfl rfl hx') ea_nil) spv_letter)) fun _ => et_B (ev_g (ea_cons (ev_byte rfl rfl hx') ea_nil) spv_digit)) ?_
    rw [isLetter_eq, isDigit_eq]
    rfl
theorem ok_behind_digits (T : Txt K mg a) : Good P w K mg base 2 a.f_behind_digits ["text", "at"] (sp_behind_digits K) := by
  obtain ⟨fd, F⟩ := T.F_behind_digits
  refine ⟨⟨fd, F.okX sc_behind_digits (fun vs H Q E h => ?_) (fun cdv A outer s H vs Q E hr h => ⟨_, (pss_cons (ps_while (passes_of rfl) (PW.pt (pw_and (pt_cmpR op_lt (pv 1) (pe_callB call_len_seq (by rfl) T.b_len (by decide +kernel) (pa_cons (pv 0) pa_nil)) (nomark _)) (pw_and1 (pt_val (pe_g (ok_is_digit T) (hr.mono (by decide)) rfl T.m_is_digit (E := fun _ => E0) px0 (pa_cons (pe_ix ix_list (pv 0) (pv 1) (fun _ _ => rfl)) pa_nil))))))
      (pss_one (ps_aug (i := 1) sc_behind_digits.nd rfl (Or.inl rfl) pe_int ip_add)))
    (pss_one (ps_ret (pv 1)))), ?_⟩), F.binds fun _ _ _ _ _ _ us hl => match us, hl with | [_, _], _ => rfl⟩, T.k_behind_digits⟩
  · obtain ⟨t, p, l, rfl, _⟩ := h
    rfl
  · obtain ⟨t, p, l, rfl, hx, k⟩ := h
    refine scan (D := { nx := _, rt := Q }) (b := p ++ l) (f := VamvsBase.isDigit) (fun p' r c H' e hb => ?_) p l rfl hx fun H' e => s_ret (ev_var rfl) fun H1 e1 => k H1 (e.trans e1)
    have hx' := ex_l e hx
    rw [hb] at hx'
    refine et_is (et_B (ev_g (ea_cons (ev_byte rfl rfl hx') ea_nil) spv_digit)) ?_
    rw [isDigit_eq]
theorem ok_behind_blanks (T : Txt K mg a) : Good P w K mg base 1 a.f_behind_blanks ["text", "at"] (sp_behind_blanks K) := by
  obtain ⟨fd, F⟩ := T.F_behind_blanks
  refine ⟨⟨fd, F.okX sc_behind_blanks (fun vs H Q E h => ?_) (fun cdv A outer s H vs Q E hr h => ⟨_, (pss_cons (ps_while (passes_of rfl) (PW.pt (pw_and (pt_cmpR op_lt (pv 1) (pe_callB call_len_seq (by rfl) T.b_len (by decide +kernel) (pa_cons (pv 0) pa_nil)) (nomark _)) (pw_and1 (PW.pt (pw_or (pt_cmpR op_in_seq (pe_ix ix_list (pv 0) (pv 1) (fun _ _ => rfl)) (pe_gr rfl T.m_BLANKS) (by rfl)) (pw_or1 (pt_cmpR op_eq (pe_ix ix_list (pv 0) (pv 1) (fun _ _ => rfl)) (pe_gi rfl T.m_REMARK) (nomark _))))))))
      (pss_one (ps_if (pt_cmpR op_eq (pe_ix ix_list (pv 0) (pv 1) (fun _ _ => rfl)) (pe_gi rfl T.m_REMARK) (nomark _))
      (pss_one (ps_while (passes_of rfl) (PW.pt (pw_and (pt_cmpR op_lt (pv 1) (pe_callB call_len_seq (by rfl) T.b_len (by decide +kernel) (pa_cons (pv 0) pa_nil)) (nomark _)) (pw_and1 (pt_cmpR op_ne (pe_ix ix_list (pv 0) (pv 1) (fun _ _ => rfl)) (pe_gi rfl T.m_LINE) (nomark _)))))
      (pss_one (ps_aug (i := 1) sc_behind_blanks.nd rfl (Or.inl rfl) pe_int ip_add))))
      (pss_one (ps_aug (i := 1) sc_behind_blanks.nd rfl (Or.inl rfl) pe_int ip_add)))))
    (pss_one (ps_ret (pv 1)))), ?_⟩), F.binds fun _ _ _ _ _ _ us hl => match us, hl with | [_, _], _ => rfl⟩, T.k_behind_blanks⟩
  · obtain ⟨t, p, l, rfl, _⟩ := h
    rfl
  · obtain ⟨t, p, l, rfl, hx, k⟩ := h
    refine q_while (fun m σ' H' => ∃ q r : Bytes, l = q ++ r ∧ σ' = [some (.ref t), some (.int ((p ++ q).length : Nat))] ∧ Ex H H' ∧ skip l = skip r ∧ m = r.length) l.length ⟨[], l, rfl, by rw [List.append_nil]; rfl, Ex.refl _, rfl, rfl⟩ ?_
    rintro m σ' H' ⟨q, r, hl, rfl, e, hs, rfl⟩
    have fin : skip r = r → ∀ H1, Ex H' H1 → tRet (tVar 1) { nx := fun x H' => Q V.non H', rt := Q } [some (V.ref t), some (V.int ((p ++ q).length : Nat))] H1 := fun z H1 e1 => s_ret (ev_var rfl) fun H2 e2 => k q (by rw [hs, z]; exact hl) H2 ((e.trans e1).trans e2)
    cases r with
    | nil =>
      refine ⟨false, et_is (et_and (b := false) (et_at rfl rfl (ex_l e hx)) fun z => ?_) (Bool.and_false _), fun z => (nomatch z), fun _ H1 e1 => fin skip_nil H1 e1⟩
      rw [hl, ← List.append_assoc, len_app_end] at z
      cases z
    | cons c r =>
      have hb2 : p ++ l = (p ++ q) ++ c :: r := by rw [hl, List.append_assoc]
      have hx' := ex_l e hx
      have hlt : decide (((p ++ q).length : Int) < (((bv (p ++ l)).length : Nat) : Int)) = true := by rw [hb2]; exact len_app_pos
      have hx2 := hx'
      rw [hb2] at hx2
      refine ⟨VamvsBase.isBlank c || (c == 35), et_is (et_and (et_at rfl rfl hx') fun _ => et_or (et_test (ev_op (ev_byte rfl rfl hx2) ev_c (rv_isT (T.t_BLANKS _) rfl rfl))) fun _ => et_test (ev_op (ev_byte rfl rfl hx2) ev_c (rv_eq rfl))) ?_, fun hf H1 e1 => ?_, fun hf H1 e1 => ?_⟩
      · rw [hlt, Bool.true_and, isBlank_eq]
        exact congrArg _ (eqI_byte c 35)
      · have hx3 := ex_l e1 hx2
        refine ⟨fun σ2 H2 => ∃ q' r' : Bytes, l = q' ++ r' ∧ r'.length < (c :: r).length ∧ σ2 = [some (.ref t), some (.int ((p ++ q').length : Nat))] ∧ Ex H H2 ∧ skip l = skip r', ?_, ?_⟩
        · rintro σ2 H2 ⟨q', r', h1, h2, rfl, h3, h4⟩
          exact ⟨r'.length, h2, q', r', h1, rfl, h3, h4, rfl⟩
        · refine s_if (b := c == 35) (et_is (et_test (ev_op (ev_byte rfl rfl hx3) ev_c (rv_eq rfl))) (eqI_byte c 35)) (fun hc H2 e2 => ?_) (fun hc H2 e2 => ?_)
          · have hc' : c = 35 := by simpa using hc
            refine scan (b := p ++ l) (f := (· != 10)) (fun p' r2 c' H3 e3 hb => ?_) (p ++ q) (c :: r) hb2 (ex_l (e1.trans e2) hx') fun H3 e3 => ?_
            · have hx4 := ex_l ((e1.trans e2).trans e3) hx'
              rw [hb] at hx4
              refine et_is (et_test (ev_op (ev_byte rfl rfl hx4) ev_c (rv_ne rfl))) ?_
              have := eqI_byte c' 10
              show (!decide (V.int (c'.toNat : Int) = V.int 10)) = (c' != 10)
              rw [show V.int (10 : Int) = V.int (((10 : UInt8).toNat : Nat) : Int) from rfl, this]
              rfl
            · refine ⟨q ++ (c :: r).takeWhile (· != 10), r.dropWhile (· != 10), ?_, Nat.lt_succ_of_le (dw_len _ r), ?_, ((e.trans e1).trans e2).trans e3, ?_⟩
              · rw [hl, List.append_assoc, List.takeWhile_cons, if_pos (by rw [hc']; decide), List.cons_append, List.takeWhile_append_dropWhile]
              · rw [← List.append_assoc]
              · rw [hs, skip_rem hc]
          · refine s_aug rfl ev_c fun H3 e3 => ⟨q ++ [c], r, by rw [hl]; simp, Nat.lt_succ_self _, ?_, ((e.trans e1).trans e2).trans e3, ?_⟩
            · show [some (V.ref t), some (V.int (((p ++ q).length : Int) + 1))] = _
              rw [← List.append_assoc, List.length_append (bs := [c])]
              rfl
            · rw [hs, skip_blank]
              rw [hc, Bool.or_false] at hf
              exact hf
      · have h1 : VamvsBase.isBlank c = false := by
          cases z : VamvsBase.isBlank c with
          | false => rfl
          | true => rw [z] at hf; cases hf
        have h2 : (c == 35) = false := by
          rw [h1, Bool.false_or] at hf
          exact hf
        exact fin (skip_stop h1 h2) H1 e1
end
end BA

namespace BA
open PySem PySem.Spec PyProof.Rows L2 Evl
open VamvsBase (Bytes Fault PTok Toks RESERVED)

/-! ### tokens as they lie in the heap -/
def bi (b : Bytes) : List Int := b.map fun c => (c.toNat : Int)
theorem bv_bi (b : Bytes) : bv b = (bi b).map V.int := by unfold bv bi; rw [List.map_map]; rfl
def ci (z : Str) : List Int := z.cps.toList.map fun c : Nat => ((c : Nat) : Int)
theorem codes_ci (z : Str) : codes z = (ci z).map V.int := by unfold codes ci; rw [List.map_map]; rfl
def strOf (b : Bytes) : Str := ⟨(b.map fun c => c.toNat).toArray⟩
theorem ci_strOf (b : Bytes) : ci (strOf b) = bi b := by
  unfold ci strOf bi
  rw [List.map_map]
  rfl
theorem strOf_len (b : Bytes) : (strOf b).length = b.length := by simp [strOf, Str.length]
theorem bi_inj {a b : Bytes} : (bi a = bi b) ↔ a = b := by
  constructor
  · intro h
    refine (List.map_inj_right ?_).mp h
    intro x y e
    have e2 : (x.toNat : Int) = y.toNat := e
    exact UInt8.toNat_inj.mp (by omega)
  · intro e
    rw [e]
def tkF (k : Str) (v : V) (p : Nat) : List (Str × V) := [("kind", .str k), ("value", v), ("place", .int p)]
inductive TkV (H : Hp) : VamvsBase.Tok → Str → V → Prop
  | name {b : Bytes} {q : Addr} : RESERVED.contains b = false → H q = some (.tup (bv b)) → TkV H (.name b) "name" (.ref q)
  | word {b : Bytes} : RESERVED.contains b = true → TkV H (.name b) "word" (.str (strOf b))
  | num (n : Nat) : TkV H (.num n) "number" (.int n)
  | sign (c : Nat) : TkV H (.sign c) "sign" (.str ⟨#[c]⟩)
  | last : TkV H .last "end" (.str "")
def TokAt (C : Addr) (H : Hp) (q : Addr) (t : PTok) : Prop := ∃ dx k v, H q = some (.ins C dx (tkF k v t.place)) ∧ TkV H t.tok k v
theorem TkV.ex {H H' : Hp} {t : VamvsBase.Tok} {k : Str} {v : V} (x : TkV H t k v) (e : Ex H H') : TkV H' t k v := by
  cases x with
  | name h1 h2 => exact .name h1 (e _ _ h2)
  | word h => exact .word h
  | num n => exact .num n
  | sign c => exact .sign c
  | last => exact .last
theorem TokAt.ex {C : Addr} {H H' : Hp} {q : Addr} {t : PTok} (x : TokAt C H q t) (e : Ex H H') : TokAt C H' q t := by
  obtain ⟨dx, k, v, h1, h2⟩ := x
  exact ⟨dx, k, v, e _ _ h1, h2.ex e⟩
def RetTok (C : Addr) (t : PTok) (H : Hp) (Q : VK) : Prop := ∀ q H2, Ex H H2 → TokAt C H2 q t → Q (.ref q) H2
/-- a fault goes out -/
def FaultAt (CF : Addr) (H : Hp) (E : XK) (f : Fault) : Prop := ∀ d H', Ex H H' → H' d = some (.xd [("place", .int f.place), ("code", .int f.code)]) → E (.ref CF) (some d) H'
theorem FaultAt.go {CF : Addr} {H H' : Hp} {E : XK} {f : Fault} (h : FaultAt CF H E f) (e : Ex H H') : FaultAt CF H' E f := fun d H2 e2 hd => h d H2 (e.trans e2) hd
theorem RetTok.go {C : Addr} {t : PTok} {H H' : Hp} {Q : VK} (h : RetTok C t H Q) (e : Ex H H') : RetTok C t H' Q := fun q H2 e2 hd => h q H2 (e.trans e2) hd

def sp_Token_init (C : Addr) : Sp := fun vs H Q _ => ∃ (x dx : Addr) (k v p : V), vs = [.ref x, k, v, p] ∧ H x = some (.ins C dx []) ∧ ∀ H', H' x = some (.ins C dx [("kind", k), ("value", v), ("place", p)]) → FrL [x] H H' → Q .non H'
def sp_name_token (K : PySem.W.Frag) (C CF : Addr) : Sp := fun vs H Q E => ∃ (t : Addr) (p u r : Bytes), vs = [.ref t, .int p.length, .int ((p.length + u.length : Nat) : Int)] ∧ SqL K H t (bv (p ++ (u ++ r))) ∧ u.length ≤ 9000 ∧
  (16 < u.length → FaultAt CF H E ⟨2, p.length⟩) ∧ (¬ 16 < u.length → RetTok C ⟨p.length, .name u⟩ H Q)
def sp_number_token (K : PySem.W.Frag) (C CF : Addr) : Sp := fun vs H Q E => ∃ (t : Addr) (p u r : Bytes) (c : UInt8), vs = [.ref t, .int p.length, .int ((p.length + (c :: u).length : Nat) : Int)] ∧ SqL K H t (bv (p ++ (c :: u ++ r))) ∧ (c :: u).length ≤ 9000 ∧
  (∀ b ∈ c :: u, VamvsBase.isDigit b = true) ∧ (VamvsBase.numberOf (c :: u) = none → FaultAt CF H E ⟨2, p.length⟩) ∧ (∀ n, VamvsBase.numberOf (c :: u) = some n → RetTok C ⟨p.length, .num n⟩ H Q)
theorem cut_bytes (p u r : Bytes) : cutV (bv (p ++ (u ++ r))) (some (p.length : Nat)) (some ((p.length + u.length : Nat) : Int)) = bv u := by
  have z := cut_mid (bv p) (bv u) (bv r)
  rw [bv_len, bv_len] at z
  rw [bv_app, bv_app]
  exact z
section
variable {K : PySem.W.Frag} {σ : L2.St} {H H' : Hp} {ta tb tv te : TE} {D : Ends}
theorem ev_lenT {p : Addr} {xs : List V} (ha : Ev ta σ H (.ref p)) (h : SqT K H p xs) : Ev (tCB (rLenS K) (tCons ta tNil)) σ H (.int (xs.length : Int)) := fun H1 e Q q =>
  ha H1 e _ fun H2 e2 => ⟨p, xs, rfl, .inr (ex_t (e.trans e2) h), q H2 e2⟩
theorem s_raiseF {C : Addr} {E : XK} {t : TA} {c p : Nat} (h : EvA t σ H [.int c, .int p]) (k : FaultAt C H E ⟨c, p⟩) : tRaiseFault C (fun cls d _ H => E cls d H) t D σ H :=
  h H (Ex.refl H) _ fun H1 e => ⟨_, _, rfl, fun d hd => k d _ (e.trans (Ex.new hd)) upd_same⟩
end
section
variable {P : Program} {w : World} {K : PySem.W.Frag} {mg : Str → Option Value} {base : Heap} {a : Ad} {H : Hp} {t : Addr} {σ : L2.St}
theorem ok_Token_init (T : Txt K mg a) : Good P w K mg base 1 a.f_Token_init ["self", "kind", "value", "place"] (sp_Token_init a.c_Token) := by
  obtain ⟨fd, F⟩ := T.F_Token_init
  refine ⟨⟨fd, F.okX sc_Token_init (fun vs H Q E h => ?_) (fun cdv A outer s H vs Q E hr h => ⟨_, (pss_cons (ps_fld (pv 0) (pv 1) rfl)
    (pss_cons (ps_fld (pv 0) (pv 2) rfl)
    (pss_one (ps_fld (pv 0) (pv 3) rfl)))), ?_⟩), F.binds fun _ _ _ _ _ _ us hl => match us, hl with | [_, _, _, _], _ => rfl⟩, T.k_Token_init⟩
  · obtain ⟨x, dx, k, v, p, rfl, _⟩ := h
    rfl
  · obtain ⟨x, dx, u, v, p, rfl, hx, k⟩ := h
    refine q_fld (ev_var rfl) (ev_var rfl) hx T.cl_Token T.n_Token_kind (by decide) fun H1 e1 => ?_
    refine q_fld (ev_var rfl) (ev_var rfl) upd_same T.cl_Token T.n_Token_value (by show (1 : Nat) ≤ 900; decide) fun H2 e2 => ?_
    refine s_fld (ev_var rfl) (ev_var rfl) upd_same T.cl_Token T.n_Token_place (by show (2 : Nat) ≤ 900; decide) fun H3 e3 => ?_
    refine k _ upd_same ?_
    exact (((FrL.ex e1).trans (FrL.up (by simp))).trans ((FrL.ex e2).trans (FrL.up (by simp)))).trans ((FrL.ex e3).trans (FrL.up (by simp)))
theorem en_token {sp : TA} {k v p : V} (h : EvA sp σ H [k, v, p]) : EvN (tGC a.c_Token (sp_Token_init a.c_Token) sp) σ H a.c_Token [("kind", k), ("value", v), ("place", p)] :=
  en_gc h fun H1 e q dx hq Q E z => ⟨q, dx, k, v, p, rfl, hq, z⟩
theorem words_at {i : Nat} {x : V} (h : ([.str "columns", .str "row", .str "ask", .str "times"] : List V)[i]? = some x) : ∃ b, RESERVED[i]? = some b ∧ x = .str (strOf b) ∧ b.length ≤ 100 := by
  have e : ([.str "columns", .str "row", .str "ask", .str "times"] : List V) = RESERVED.map fun b => V.str (strOf b) := by decide +kernel
  rw [e, List.getElem?_map] at h
  cases z : RESERVED[i]? with
  | none => rw [z] at h; cases h
  | some b =>
    rw [z] at h
    refine ⟨b, rfl, (Option.some.inj h).symm, ?_⟩
    have : ∀ c ∈ RESERVED, c.length ≤ 100 := by decide +kernel
    exact this b (List.mem_of_getElem? z)
theorem eu_signs {ta : TE} {z : Str} {E : L2.St → XK} (h : Ev ta σ H (.str z)) (hz : z.length ≤ 40000) : EvU (tG sp_signs_of E (tCons ta tNil)) σ H (codes z) :=
  eu_g (ea_cons h ea_nil) fun H1 _ Q q E => ⟨z, rfl, hz, q⟩
theorem ok_name_token (T : Txt K mg a) : Good P w K mg base 3 a.f_name_token ["text", "at", "end"] (sp_name_token K a.c_Token a.c_Fault) := by
  obtain ⟨fd, F⟩ := T.F_name_token
  refine ⟨⟨fd, F.okX sc_name_token (fun vs H Q E h => ?_) (fun cdv A outer s H vs Q E hr h => ⟨_, (pss_cons (ps_set (i := 3) sc_name_token.nd rfl (Or.inl rfl) (pe_callTy call_tuple_of (by rfl) T.b_tuple (by decide +kernel) (pa_cons (pe_slice sl_list (pv 0) (po_some (pv 1)) (po_some (pv 2))) pa_nil)))
    (pss_cons (ps_for (passes_of rfl) rfl (pi_tup (pe_gr rfl T.m_WORDS)) (pg_name (i := 4) sc_name_token.nd rfl (Or.inl rfl))
      (pss_one (ps_if (pt_cmpR (op_eqD hr.units) (pv 3) (pe_g (ok_signs_of T) (hr.mono (by decide)) rfl T.m_signs_of (E := fun _ => E0) px0 (pa_cons (pv 4) pa_nil)) (nomark _))
      (pss_one (ps_ret (pe_gc (ok_Token_init T) T.mk_Token (hr.mono (by decide)) rfl T.m_Token (pa_cons (pe_gs rfl T.m_WORD) (pa_cons (pv 4) (pa_cons (pv 1) pa_nil))))))
      pss_nil)))
    (pss_cons (ps_if (pt_cmpR op_gt (pe_callB call_len_seq (by rfl) T.b_len (by decide +kernel) (pa_cons (pv 3) pa_nil)) (pe_gi rfl T.m_MOST_NAME) (nomark _))
      (pss_one (ps_raiseFault rfl T.x_Fault (hr.mono (by decide)) (takes_of rfl rfl rfl rfl) (pa_cons (pe_gi rfl T.m_NO_TOKEN) (pa_cons (pv 1) pa_nil))))
      pss_nil)
    (pss_one (ps_ret (pe_gc (ok_Token_init T) T.mk_Token (hr.mono (by decide)) rfl T.m_Token (pa_cons (pe_gs rfl T.m_NAME) (pa_cons (pv 3) (pa_cons (pv 1) pa_nil))))))))), ?_⟩), F.binds fun _ _ _ _ _ _ us hl => match us, hl with | [_, _, _], _ => rfl⟩, T.k_name_token⟩
  · obtain ⟨t, p, u, r, rfl, _⟩ := h
    rfl
  · obtain ⟨t, p, u, r, rfl, hx, hz, kF, kR⟩ := h
    refine q_asgU (eu_tupL (el_sl (ev_var rfl) (eo_some (ev_var rfl)) (eo_some (ev_var rfl)) hx)) fun v H1 hv e1 h1 => ?_
    rw [cut_bytes] at h1
    refine q_forT ev_c (T.t_WORDS _) (fun i σ' H' => ∃ x, σ' = [some (.ref t), some (.int p.length), some (.int ((p.length + u.length : Nat) : Int)), some (.ref v), x] ∧ Ex H1 H' ∧ ∀ b ∈ RESERVED.take i, u ≠ b) (fun H2 e2 => ⟨none, rfl, e2, fun b hb => by simp at hb⟩)
      (fun _ _ _ _ _ => T.t_WORDS _) (fun i x σ' H' hi ⟨x0, hσ, e2, hno⟩ => ?_) (fun σ' H' ⟨x0, hσ, e2, hno⟩ => ?_)
    · obtain ⟨b, hb, rfl, hbl⟩ := words_at hi
      subst hσ
      refine s_when (b := decide (u = b)) (et_is (et_test (ev_opU (xs := codes (strOf b)) (ev_var rfl) (eu_signs (ev_var rfl) (by rw [strOf_len]; omega)) fun q H2 hq e3 => rv_eqTT (l := bi u) (m := bi b) ?_ ?_)) ?_) (fun hb2 H2 e3 => ?_) (fun hb2 H2 e3 => ?_)
      · rw [← bv_bi]
        exact st_of (e3 _ _ (e2 _ _ h1))
      · rw [← ci_strOf, ← codes_ci]
        exact st_of hq
      · rw [Bool.eq_iff_iff, decide_eq_true_iff, decide_eq_true_iff]
        exact bi_inj
      · have eb : u = b := of_decide_eq_true hb2
        have hmem : RESERVED.contains u = true := by rw [eb]; exact List.contains_iff_mem.mpr (List.mem_of_getElem? hb)
        refine s_retN (en_token (ea_cons ev_c (ea_cons (ev_var rfl) (ea_cons (ev_var rfl) ea_nil)))) fun q dx H3 _ e4 h3 => ?_
        refine kR ?_ q H3 (((e1.trans e2).trans e3).trans e4) ⟨dx, _, _, h3, ?_⟩
        · have : ∀ c ∈ RESERVED, ¬ 16 < c.length := by decide +kernel
          rw [eb]
          exact this b (List.mem_of_getElem? hb)
        · rw [← eb]
          exact .word hmem
      · refine ⟨_, rfl, e2.trans e3, fun c hc => ?_⟩
        rw [List.take_succ, hb] at hc
        rcases List.mem_append.mp hc with hc | hc
        · exact hno c hc
        · have : c = b := by simpa using hc
          rw [this]
          exact of_decide_eq_false hb2
    · subst hσ
      have hno2 : RESERVED.contains u = false := by
        rw [Bool.eq_false_iff]
        intro hc
        exact hno u (List.contains_iff_mem.mp hc) rfl
      have e12 := e1.trans e2
      refine q_when (b := decide (16 < u.length)) (et_is (et_test (ev_op (ev_lenT (ev_var rfl) (st_of (e2 _ _ h1))) ev_c rv_I0)) ?_) (fun hb H2 e3 => ?_) (fun hb H2 e3 => ?_)
      · rw [bv_len, Bool.eq_iff_iff, decide_eq_true_iff, decide_eq_true_iff]
        omega
      · exact s_raiseF (ea_cons ev_c (ea_cons (ev_var rfl) ea_nil)) ((kF (of_decide_eq_true hb)).go (e12.trans e3))
      · refine s_retN (en_token (ea_cons ev_c (ea_cons (ev_var rfl) (ea_cons (ev_var rfl) ea_nil)))) fun q dx H3 _ e4 h3 => ?_
        exact kR (of_decide_eq_false hb) q H3 ((e12.trans e3).trans e4) ⟨dx, _, _, h3, .name hno2 (e4 _ _ (e3 _ _ (e2 _ _ h1)))⟩
theorem ok_number_token (T : Txt K mg a) : Good P w K mg base 3 a.f_number_token ["text", "at", "end"] (sp_number_token K a.c_Token a.c_Fault) := by
  obtain ⟨fd, F⟩ := T.F_number_token
  refine ⟨⟨fd, F.okX sc_number_token (fun vs H Q E h => ?_) (fun cdv A outer s H vs Q E hr h => ⟨_, (pss_cons (ps_set (i := 3) sc_number_token.nd rfl (Or.inl rfl) pe_int)
    (pss_cons (ps_for (passes_of rfl) rfl (pi_list (pe_slice sl_list (pv 0) (po_some (pv 1)) (po_some (pv 2)))) (pg_name (i := 4) sc_number_token.nd rfl (Or.inl rfl))
      (pss_one (ps_set (i := 3) sc_number_token.nd rfl (Or.inl rfl) (pe_op op_sub (pe_op op_add (pe_op op_mulW pe_int (pv 3)) (pv 4)) pe_int))))
    (pss_cons (ps_if (PW.pt (pw_or (pt_cmpR op_gt (pv 3) (pe_gi rfl T.m_MOST_NUMBER) (nomark _)) (pw_or1 (PW.pt (pw_and (pt_cmpR op_eq (pe_ix ix_list (pv 0) (pv 1) (fun _ _ => rfl)) pe_int (nomark _)) (pw_and1 (pt_cmpR op_gt (pe_op op_sub (pv 2) (pv 1)) pe_int (nomark _))))))))
      (pss_one (ps_raiseFault rfl T.x_Fault (hr.mono (by decide)) (takes_of rfl rfl rfl rfl) (pa_cons (pe_gi rfl T.m_NO_TOKEN) (pa_cons (pv 1) pa_nil))))
      pss_nil)
    (pss_one (ps_ret (pe_gc (ok_Token_init T) T.mk_Token (hr.mono (by decide)) rfl T.m_Token (pa_cons (pe_gs rfl T.m_NUMBER) (pa_cons (pv 3) (pa_cons (pv 1) pa_nil))))))))), ?_⟩), F.binds fun _ _ _ _ _ _ us hl => match us, hl with | [_, _, _], _ => rfl⟩, T.k_number_token⟩
  · obtain ⟨t, p, u, r, c, rfl, _⟩ := h
    rfl
  · obtain ⟨t, p, u, r, c, rfl, hx, hz, hd, kF, kR⟩ := h
    refine q_asg ev_c fun H1 e1 => ?_
    refine q_forNLn (xs := bv (c :: u)) ?_ (fun l i σ' H' => ∃ x, σ' = [some (.ref t), some (.int p.length), some (.int ((p.length + (c :: u).length : Nat) : Int)), some (.int (VamvsBase.decimal ((c :: u).take i) : Nat)), x] ∧ Ex H1 H' ∧ H' l = some (.lst (bv (c :: u))))
      (fun l H2 hl e2 h2 => ⟨none, rfl, e2, h2⟩) (fun l i σ' H' _ ⟨_, _, _, h2⟩ => sq_of h2) (fun l i x σ' H' hi ⟨x0, hσ, e2, h2⟩ => ?_) (fun l σ' H' ⟨x0, hσ, e2, h2⟩ => ?_)
    · have z := el_sl (K := K) (te := tVar 0) (tl := tPart (tVar 1)) (th := tPart (tVar 2)) (σ := [some (.ref t), some (.int p.length), some (.int ((p.length + (c :: u).length : Nat) : Int)), some (.int 0), none]) (ev_var rfl) (eo_some (ev_var rfl)) (eo_some (ev_var rfl)) (ex_l e1 hx)
      rw [cut_bytes] at z
      exact z
    · subst hσ
      have hi' := hi
      unfold bv at hi
      rw [List.getElem?_map] at hi
      cases hb : (c :: u)[i]? with
      | none => rw [hb] at hi; cases hi
      | some b =>
        rw [hb] at hi
        cases hi
        have hbd := digit_iff.mp (hd b (List.mem_of_getElem? hb))
        have hlt := (List.getElem?_eq_some_iff.mp hb).1
        have hdec : VamvsBase.decimal ((c :: u).take i) < 10 ^ ((c :: u).take i).length := decimal_lt fun x hx => hd x (List.mem_of_mem_take hx)
        have hb2 : VamvsBase.decimal ((c :: u).take i) < 2 ^ 36000 := by
          refine Nat.lt_of_lt_of_le hdec ?_
          have h1 : ((c :: u).take i).length ≤ 9000 := by rw [List.length_take]; omega
          calc 10 ^ ((c :: u).take i).length ≤ 16 ^ ((c :: u).take i).length := Nat.pow_le_pow_left (by decide) _
            _ = (2 ^ 4) ^ ((c :: u).take i).length := by rfl
            _ = 2 ^ (4 * ((c :: u).take i).length) := (Nat.pow_mul 2 4 _).symm
            _ ≤ 2 ^ 36000 := Nat.pow_le_pow_right (by decide) (by omega)
        refine s_asg (ev_op (ev_op (ev_op ev_c (ev_var rfl) (rv_I (wide_mul (a := 4) (b := 36000) (by decide) (by rw [Int.natAbs_natCast]; exact hb2) (by decide) (by decide) (by decide)))) (ev_var rfl) rv_I0) ev_c rv_I0) fun H2 e3 => ?_
        refine ⟨some (.int (b.toNat : Int)), ?_, e2.trans e3, e3 _ _ h2⟩
        rw [List.take_succ, hb]
        show _ = [some (V.ref t), some (V.int p.length), some (V.int ((p.length + (c :: u).length : Nat) : Int)), some (V.int (VamvsBase.decimal ((c :: u).take i ++ [b]) : Nat)), some (V.int (b.toNat : Int))]
        rw [decimal_snoc]
        have e4 : (10 : Int) * (VamvsBase.decimal ((c :: u).take i) : Nat) + (b.toNat : Int) - 48 = ((10 * VamvsBase.decimal ((c :: u).take i) + (b.toNat - 48) : Nat) : Int) := by omega
        rw [← e4]
        rfl
    · subst hσ
      rw [bv_len, List.take_length]
      have hne := numberOf_eq hd
      have e12 := e1.trans e2
      have hx2 := ex_l e12 hx
      refine q_when (b := decide (VamvsBase.NUMBER < VamvsBase.decimal (c :: u)) || (decide (c.toNat = 48) && decide (1 < (c :: u).length))) (et_is (et_or (et_test (ev_op (ev_var rfl) ev_c rv_I0)) fun _ => et_and (et_test (ev_op (ev_byte rfl rfl hx2) ev_c (rv_eq rfl))) fun _ => et_test (ev_op (ev_op (ev_var rfl) (ev_var rfl) rv_I0) ev_c rv_I0)) ?_) (fun hb H2 e3 => ?_) (fun hb H2 e3 => ?_)
      · rw [Bool.eq_iff_iff]
        simp only [Bool.or_eq_true, Bool.and_eq_true, decide_eq_true_eq, V.int.injEq]
        unfold VamvsBase.NUMBER
        omega
      · simp only [Bool.or_eq_true, Bool.and_eq_true, decide_eq_true_eq] at hb
        rw [if_pos hb] at hne
        exact s_raiseF (ea_cons ev_c (ea_cons (ev_var rfl) ea_nil)) ((kF hne).go (e12.trans e3))
      · have hb' : ¬ (VamvsBase.NUMBER < VamvsBase.decimal (c :: u) ∨ (c.toNat = 48 ∧ 1 < (c :: u).length)) := fun z => by
          have : (decide (VamvsBase.NUMBER < VamvsBase.decimal (c :: u)) || (decide (c.toNat = 48) && decide (1 < (c :: u).length))) = true := by
            simp only [Bool.or_eq_true, Bool.and_eq_true, decide_eq_true_eq]
            exact z
          rw [this] at hb
          cases hb
        rw [if_neg hb'] at hne
        refine s_retN (en_token (ea_cons ev_c (ea_cons (ev_var rfl) (ea_cons (ev_var rfl) ea_nil)))) fun q dx H3 _ e4 h3 => ?_
        exact kR _ hne q H3 ((e12.trans e3).trans e4) ⟨dx, _, _, h3, .num _⟩
end
end BA

namespace BA
open PySem PySem.Spec PyProof.Rows L2 Evl
open VamvsBase (Bytes Fault PTok Toks RESERVED)

def TokL (C : Addr) (H : Hp) (qs : List Addr) (ts : Toks) : Prop := Paired (fun q t => TokAt C H q t) qs ts
theorem TokL.ex {C : Addr} {H H' : Hp} (e : Ex H H') : ∀ {qs : List Addr} {ts : Toks}, TokL C H qs ts → TokL C H' qs ts
  | _, _, .nil => .nil
  | _, _, .cons h r => .cons (h.ex e) (TokL.ex e r)
theorem TokAt.up {C : Addr} {H : Hp} {q f : Addr} {t : PTok} {xs ys : List V} (x : TokAt C H q t) (hf : H f = some (.lst xs)) : TokAt C (upd H f (.lst ys)) q t := by
  obtain ⟨pl, tk⟩ := t
  obtain ⟨dx, k, v, h1, h2⟩ := x
  refine ⟨dx, k, v, ?_, ?_⟩
  · rw [upd_ne (ne_of h1 hf (by intro z; cases z))]
    exact h1
  · cases h2 with
    | name n1 n2 =>
      refine .name n1 ?_
      rw [upd_ne (ne_of n2 hf (by intro z; cases z))]
      exact n2
    | word h => exact .word h
    | num n => exact .num n
    | sign c => exact .sign c
    | last => exact .last
theorem TokL.up {C : Addr} {H : Hp} {f : Addr} {xs ys : List V} (hf : H f = some (.lst xs)) : ∀ {qs : List Addr} {ts : Toks}, TokL C H qs ts → TokL C (upd H f (.lst ys)) qs ts
  | _, _, .nil => .nil
  | _, _, .cons h r => .cons (h.up hf) (TokL.up hf r)
theorem TokL.snoc {C : Addr} {H : Hp} {q : Addr} {t : PTok} : ∀ {qs : List Addr} {ts : Toks}, TokL C H qs ts → TokAt C H q t → TokL C H (qs ++ [q]) (ts ++ [t])
  | _, _, .nil, h => .cons h .nil
  | _, _, .cons h r, h2 => .cons h (TokL.snoc r h2)
def refs (qs : List Addr) : List V := qs.map V.ref
theorem refs_snoc (qs : List Addr) (q : Addr) : refs (qs ++ [q]) = refs qs ++ [.ref q] := by unfold refs; rw [List.map_append]; rfl
theorem refs_len (qs : List Addr) : (refs qs).length = qs.length := List.length_map ..

def sp_tokens_of (K : PySem.W.Frag) (C CF : Addr) : Sp := fun vs H Q E => ∃ (t : Addr) (b : Bytes), vs = [.ref t] ∧ SqL K H t (bv b) ∧ b.length ≤ 9000 ∧
  (∀ f, VamvsBase.lex (b.length + 1) 0 b = .error f → FaultAt CF H E f) ∧
  (∀ ts, VamvsBase.lex (b.length + 1) 0 b = .ok ts → ∀ p H2 qs, H p = none → Ex H H2 → H2 p = some (.lst (refs qs)) → TokL C H2 qs ts → qs.length ≤ b.length + 1 → Q (.ref p) H2)
/-- the loop's word: the text b, its place p, what comes l; the tokens so far -/
structure LexAt (C : Addr) (H0 : Hp) (b : Bytes) (f : Addr) (p l : Bytes) (H : Hp) : Prop where
  sp : b = p ++ l
  ex : Ex H0 H
  st : skip l = l
  toks : ∃ (qs : List Addr) (ts : Toks), H f = some (.lst (refs qs)) ∧ TokL C H qs ts ∧ qs.length ≤ p.length ∧ ∀ n, l.length < n → VamvsBase.lex (b.length + 1) 0 b = (VamvsBase.lex n p.length l).map (ts ++ ·)
section
variable {P : Program} {w : World} {K : PySem.W.Frag} {mg : Str → Option Value} {base : Heap} {a : Ad} {H H' : Hp} {t : Addr} {σ : L2.St}
theorem map_map {α β γ : Type} {f : α → β} {g : β → γ} (x : Except Fault α) : (x.map f).map g = x.map fun z => g (f z) := by cases x <;> rfl
theorem tw_all (f : UInt8 → Bool) : ∀ l : Bytes, ∀ x ∈ l.takeWhile f, f x = true
  | [], x, h => by simp at h
  | c :: r, x, h => by
    rw [List.takeWhile_cons] at h
    split at h
    · rename_i hc
      rcases List.mem_cons.mp h with rfl | h
      · exact hc
      · exact tw_all f r x h
    · simp at h
/-- a token more, then blanks -/
theorem LexAt.more {C : Addr} {H0 H1 : Hp} {b p u r : Bytes} {f q : Addr} {tk : VamvsBase.Tok} (h : LexAt C H0 b f p (u ++ r) H) (hu : u ≠ []) (e : Ex H H1) (ht : TokAt C H1 q ⟨p.length, tk⟩)
    (hl : ∀ n, (u ++ r).length < n + 1 → VamvsBase.lex (n + 1) p.length (u ++ r) = (VamvsBase.lex n (p.length + u.length) r).map fun l => ⟨p.length, tk⟩ :: l) (hf0 : H0 f = none) :
    ∃ xs, H1 f = some (.lst xs) ∧ xs.length ≤ b.length ∧ ∀ q' , r = q' ++ skip r → ∀ H2, Ex (upd H1 f (.lst (xs ++ [.ref q]))) H2 → LexAt C H0 b f (p ++ (u ++ q')) (skip r) H2 := by
  obtain ⟨qs, ts, h1, h2, h3, h4⟩ := h.toks
  have hup : 1 ≤ u.length := Nat.one_le_iff_ne_zero.mpr fun z => hu (List.length_eq_zero_iff.mp z)
  refine ⟨refs qs, e _ _ h1, ?_, fun q' hq H2 e2 => ⟨?_, ?_, ?_, qs ++ [q], ts ++ [⟨p.length, tk⟩], ?_, ?_, ?_, fun n hn => ?_⟩⟩
  · rw [refs_len, h.sp, List.length_append]
    omega
  · rw [h.sp]
    calc p ++ (u ++ r) = p ++ (u ++ (q' ++ skip r)) := by rw [← hq]
      _ = p ++ (u ++ q') ++ skip r := by simp
  · exact (Ex.mut (h.ex.trans e) hf0).trans e2
  · have : skip (skip r) = skip r := by
      rcases skip_cases r.length r (Nat.le_refl _) with z | ⟨c, r', z, z1, z2⟩
      · rw [z, skip_nil]
      · rw [z, skip_stop z1 z2]
    exact this
  · rw [refs_snoc]
    exact e2 _ _ upd_same
  · exact ((h2.ex e).snoc ht |>.up (e _ _ h1)).ex e2
  · rw [List.length_append, List.length_append, List.length_append, List.length_singleton]
    omega
  · have hn1 : (u ++ r).length < ((u ++ r).length) + 1 := Nat.lt_succ_self _
    rw [h4 _ hn1, hl _ hn1, map_map]
    have hr : r.length < (u ++ r).length := by rw [List.length_append]; omega
    obtain ⟨n', k1, k2⟩ := lex_skip r.length r (Nat.le_refl _) ((u ++ r).length) (p.length + u.length) hr
    rw [k2, lex_fuel (skip r).length (skip r) (Nat.le_refl _) n' n _ k1 hn]
    have e3 : p.length + u.length + (r.length - (skip r).length) = (p ++ (u ++ q')).length := by
      have := congrArg List.length hq
      rw [List.length_append] at this
      rw [List.length_append, List.length_append]
      omega
    rw [e3]
    congr 1
    funext z
    show ts ++ (_ :: z) = ts ++ [_] ++ z
    rw [List.append_assoc]
    rfl
theorem ev_blanks {i j : Nat} {p l q : Bytes} {E : L2.St → XK} (h0 : σ[i]? = some (some (.ref t))) {te : TE} (h1 : Ev te σ H (.int p.length)) (hx : SqL K H t (bv (p ++ l))) (hq : l = q ++ skip l) : Ev (tG (sp_behind_blanks K) E (tCons (tVar i) (tCons te tNil))) σ H (.int ((p ++ q).length : Nat)) :=
  ev_g (ea_cons (ev_var h0) (ea_cons h1 ea_nil)) fun H1 e Q k E => ⟨t, p, l, rfl, ex_l e hx, fun q' hq' => by
    have : q' = q := List.append_cancel_right (hq'.symm.trans hq)
    rw [this]
    exact k⟩
theorem sign_at (c : UInt8) : (([(44, .str ","), (58, .str ":"), (59, .str ";"), (45, .str "-")] : List (Int × V)).lookup (c.toNat : Int)) = if VamvsBase.SIGNS.contains c = true then some (.str ⟨#[c.toNat]⟩) else none := by
  have h : ∀ n : Nat, n < 256 → (([(44, V.str ","), (58, .str ":"), (59, .str ";"), (45, .str "-")] : List (Int × V)).lookup (n : Int)) = if VamvsBase.SIGNS.contains (UInt8.ofNat n) = true then some (.str ⟨#[n]⟩) else none := by decide +kernel
  have e := h c.toNat c.toNat_lt
  rw [UInt8.ofNat_toNat] at e
  exact e
theorem ok_tokens_of (T : Txt K mg a) : Good P w K mg base 4 a.f_tokens_of ["text"] (sp_tokens_of K a.c_Token a.c_Fault) := by
  obtain ⟨fd, F⟩ := T.F_tokens_of
  refine ⟨⟨fd, F.okX sc_tokens_of (fun vs H Q E h => ?_) (fun cdv A outer s H vs Q E hr h => ⟨_, (pss_cons (ps_par (i := 1) (j := 2) (by rfl) sc_tokens_of.nd rfl rfl (by decide) rfl rfl (pa_cons (pe_lst pa_nil) (pa_cons (pe_g (ok_behind_blanks T) (hr.mono (by decide)) rfl T.m_behind_blanks (E := fun _ => E0) px0 (pa_cons (pv 0) (pa_cons pe_int pa_nil))) pa_nil)) (by rfl))
    (pss_cons (ps_while (passes_of rfl) (pt_cmpR op_lt (pv 2) (pe_callB call_len_seq (by rfl) T.b_len (by decide +kernel) (pa_cons (pv 0) pa_nil)) (nomark _))
      (pss_cons (ps_set (i := 3) sc_tokens_of.nd rfl (Or.inl rfl) (pe_op op_add (pv 2) pe_int))
    (pss_cons (ps_if (pt_val (pe_g (ok_is_letter T) (hr.mono (by decide)) rfl T.m_is_letter (E := fun _ => E0) px0 (pa_cons (pe_ix ix_list (pv 0) (pv 2) (fun _ _ => rfl)) pa_nil)))
      (pss_cons (ps_set (i := 3) sc_tokens_of.nd rfl (Or.inl rfl) (pe_g (ok_behind_name T) (hr.mono (by decide)) rfl T.m_behind_name (E := fun _ => E0) px0 (pa_cons (pv 0) (pa_cons (pv 2) pa_nil))))
    (pss_one (ps_expr (pe_bm PySem.F.plainAttrs_list PySem.F.slot_list_append PySem.F.type_list_append mt_append (pv 1) (pa_cons (pe_g (ok_name_token T) (hr.mono (by decide)) rfl T.m_name_token (E := fun _ => E) (pxt (takes_of rfl rfl rfl rfl)) (pa_cons (pv 0) (pa_cons (pv 2) (pa_cons (pv 3) pa_nil)))) pa_nil)))))
      (pss_one (ps_if (pt_val (pe_g (ok_is_digit T) (hr.mono (by decide)) rfl T.m_is_digit (E := fun _ => E0) px0 (pa_cons (pe_ix ix_list (pv 0) (pv 2) (fun _ _ => rfl)) pa_nil)))
      (pss_cons (ps_set (i := 3) sc_tokens_of.nd rfl (Or.inl rfl) (pe_g (ok_behind_digits T) (hr.mono (by decide)) rfl T.m_behind_digits (E := fun _ => E0) px0 (pa_cons (pv 0) (pa_cons (pv 2) pa_nil))))
    (pss_one (ps_expr (pe_bm PySem.F.plainAttrs_list PySem.F.slot_list_append PySem.F.type_list_append mt_append (pv 1) (pa_cons (pe_g (ok_number_token T) (hr.mono (by decide)) rfl T.m_number_token (E := fun _ => E) (pxt (takes_of rfl rfl rfl rfl)) (pa_cons (pv 0) (pa_cons (pv 2) (pa_cons (pv 3) pa_nil)))) pa_nil)))))
      (pss_one (ps_if (pt_cmpR (op_kdI T.d_SIGNS) (pe_ix ix_list (pv 0) (pv 2) (fun _ _ => rfl)) (pe_gr rfl T.m_SIGNS) (by rfl))
      (pss_one (ps_expr (pe_bm PySem.F.plainAttrs_list PySem.F.slot_list_append PySem.F.type_list_append mt_append (pv 1) (pa_cons (pe_gc (ok_Token_init T) T.mk_Token (hr.mono (by decide)) rfl T.m_Token (pa_cons (pe_gs rfl T.m_SIGN) (pa_cons (pe_ix (ix_kdI T.d_SIGNS) (pe_gr rfl T.m_SIGNS) (pe_ix ix_list (pv 0) (pv 2) (fun _ _ => rfl)) (fun _ _ => rfl)) (pa_cons (pv 2) pa_nil)))) pa_nil))))
      (pss_one (ps_raiseFault rfl T.x_Fault (hr.mono (by decide)) (takes_of rfl rfl rfl rfl) (pa_cons (pe_gi rfl T.m_NO_TOKEN) (pa_cons (pv 2) pa_nil)))))))))
    (pss_one (ps_set (i := 2) sc_tokens_of.nd rfl (Or.inl rfl) (pe_g (ok_behind_blanks T) (hr.mono (by decide)) rfl T.m_behind_blanks (E := fun _ => E0) px0 (pa_cons (pv 0) (pa_cons (pv 3) pa_nil))))))))
    (pss_one (ps_ret (pe_op op_cat (pv 1) (pe_lst (pa_cons (pe_gc (ok_Token_init T) T.mk_Token (hr.mono (by decide)) rfl T.m_Token (pa_cons (pe_gs rfl T.m_END) (pa_cons pe_str (pa_cons (pe_callB call_len_seq (by rfl) T.b_len (by decide +kernel) (pa_cons (pv 0) pa_nil)) pa_nil)))) pa_nil))))))), ?_⟩), F.binds fun _ _ _ _ _ _ us hl => match us, hl with | [_], _ => rfl⟩, T.k_tokens_of⟩
  · obtain ⟨t, b, rfl, _⟩ := h
    rfl
  · obtain ⟨t, b, rfl, hx, hz, kF, kR⟩ := h
    obtain ⟨q0, hq0⟩ := skip_split b
    refine q_parLV (el_lst ea_nil (by show (0 : Nat) ≤ 100000; decide)) (ev_blanks (K := K) (p := []) (i := 0) (j := 0) rfl ev_c hx hq0) fun f H2 hf e1 h1 => ?_
    refine q_while (fun m σ' H' => ∃ (p l : Bytes) (x : Option V), σ' = [some (.ref t), some (.ref f), some (.int p.length), x] ∧ LexAt a.c_Token H b f p l H' ∧ m = l.length) (skip b).length
      ⟨q0, skip b, none, rfl, ⟨hq0, e1, ?_, [], [], h1, .nil, Nat.zero_le _, fun n hn => ?_⟩, rfl⟩ ?_
    · rcases skip_cases b.length b (Nat.le_refl _) with z | ⟨c, r', z, z1, z2⟩
      · rw [z, skip_nil]
      · rw [z, skip_stop z1 z2]
    · obtain ⟨n', k1, k2⟩ := lex_skip b.length b (Nat.le_refl _) (b.length + 1) 0 (Nat.lt_succ_self _)
      rw [k2, lex_fuel (skip b).length (skip b) (Nat.le_refl _) n' n _ k1 hn]
      have e3 : 0 + (b.length - (skip b).length) = q0.length := by
        have := congrArg List.length hq0
        rw [List.length_append] at this
        omega
      rw [e3]
      cases VamvsBase.lex n q0.length (skip b) <;> rfl
    rintro m σ' H' ⟨p, l, x, rfl, L, rfl⟩
    have hx' := ex_l L.ex hx
    cases l with
    | nil =>
      refine ⟨false, et_is (et_at (i := 0) (j := 2) rfl rfl hx') ?_, fun z => (nomatch z), fun _ H3 e3 => ?_⟩
      · rw [L.sp]
        exact len_app_end
      · obtain ⟨qs, ts, k1, k2, k3, k4⟩ := L.toks
        have k5 := k4 1 Nat.one_pos
        rw [lex_end] at k5
        have hbp : b.length = p.length := by rw [L.sp, List.append_nil]
        refine ⟨.ref f, rfl, el_lstN (en_token (ea_cons ev_c (ea_cons ev_c (ea_cons (ev_len (ev_var rfl) (ex_l e3 hx')) ea_nil)))) H3 (Ex.refl _) _ fun p2 q dx H4 hp2 hq e4 h4 h5 => ?_⟩
        have e34 := e3.trans e4
        rw [bv_len, hbp] at h5
        refine ⟨f, p2, refs qs, [.ref q], rfl, rfl, e34 _ _ k1, h4, ?_, fun p3 hp3 => ?_⟩
        · rw [refs_len]
          exact sz_of (by show qs.length + 1 ≤ 100000; omega)
        · have e5 : Ex H4 (upd H4 p3 (.lst (refs qs ++ [.ref q]))) := Ex.new hp3
          refine kR _ k5 p3 _ (qs ++ [q]) (fresh_back (L.ex.trans e34) hp3) ((L.ex.trans e34).trans e5) (by rw [upd_same, refs_snoc]) ((k2.ex (e34.trans e5)).snoc ⟨dx, _, _, e5 _ _ h5, .last⟩) (by rw [List.length_append, List.length_singleton]; omega)
    | cons c r =>
      have hst := L.st
      have hc : VamvsBase.isBlank c = false ∧ (c == 35) = false := by
        rcases skip_cases (c :: r).length (c :: r) (Nat.le_refl _) with z | ⟨c', r', z, z1, z2⟩
        · rw [hst] at z
          cases z
        · rw [hst] at z
          cases z
          exact ⟨z1, z2⟩
      have hx2 := hx'
      rw [L.sp] at hx2
      have hpl : p.length + 1 ≤ b.length := by rw [L.sp, List.length_append, List.length_cons]; omega
      refine ⟨true, et_is (et_at (i := 0) (j := 2) rfl rfl hx') ?_, fun _ H3 e3 => ?_, fun z => (nomatch z)⟩
      · rw [L.sp]
        exact len_app_pos
      refine ⟨fun σ2 H2 => ∃ (p' l' : Bytes) (x : Option V), σ2 = [some (.ref t), some (.ref f), some (.int p'.length), x] ∧ LexAt a.c_Token H b f p' l' H2 ∧ l'.length < (c :: r).length, ?_, ?_⟩
      · rintro σ2 H2 ⟨p', l', x, rfl, L', hlt⟩
        exact ⟨l'.length, hlt, p', l', x, rfl, L', rfl⟩
      refine q_asg (ev_op (ev_var rfl) ev_c rv_I0) fun H4 e4 => ?_
      have e34 := e3.trans e4
      -- what stands behind the ifs
      have fin : ∀ (u r' : Bytes) (tk : VamvsBase.Tok) (q : Addr) (H5 : Hp), c :: r = u ++ r' → u ≠ [] → Ex H4 H5 → TokAt a.c_Token H5 q ⟨p.length, tk⟩ →
          (∀ n, (u ++ r').length < n + 1 → VamvsBase.lex (n + 1) p.length (u ++ r') = (VamvsBase.lex n (p.length + u.length) r').map fun l => ⟨p.length, tk⟩ :: l) →
          ∃ xs, H5 f = some (.lst xs) ∧ xs.length < sizeLine ∧ ∀ H6, Ex (upd H5 f (.lst (xs ++ [.ref q]))) H6 → ∀ E2 : L2.St → XK, ∀ D : Ends, (∀ σ2 H2, (∃ (p' l' : Bytes) (x : Option V), σ2 = [some (.ref t), some (.ref f), some (.int p'.length), x] ∧ LexAt a.c_Token H b f p' l' H2 ∧ l'.length < (c :: r).length) → D.nx σ2 H2) →
            tAsg (tG (sp_behind_blanks K) E2 (tCons (tVar 0) (tCons (tVar 3) tNil))) (gName 2) D [some (.ref t), some (.ref f), some (.int p.length), some (.int ((p.length + u.length : Nat) : Int))] H6 := by
        intro u r' tk q H5 hu hu0 e5 ht hl
        have L2 := L
        rw [hu] at L2
        obtain ⟨xs, g1, g2, g3⟩ := L2.more hu0 (e34.trans e5) ht hl hf
        refine ⟨xs, g1, sz_lt (by omega), fun H6 e6 E2 D hD => ?_⟩
        obtain ⟨q', hq'⟩ := skip_split r'
        have hb3 : b = (p ++ u) ++ r' := by rw [L.sp, hu, List.append_assoc]
        have hx6 : SqL K H6 t (bv ((p ++ u) ++ r')) := by
          rw [← hb3]
          have ex6 : Ex H (upd H5 f (.lst (xs ++ [.ref q]))) := Ex.mut ((L.ex.trans e34).trans e5) hf
          exact ex_l (ex6.trans e6) hx
        refine s_asg (ev_blanks (K := K) (p := p ++ u) (j := 0) rfl (by rw [List.length_append]; exact ev_var rfl) hx6 hq') fun H7 e7 => hD _ _ ⟨p ++ (u ++ q'), skip r', some (.int ((p.length + u.length : Nat) : Int)), ?_, g3 q' hq' H7 (e6.trans e7), ?_⟩
        · show [_, _, some (V.int (((p ++ u) ++ q').length : Nat)), _] = _
          rw [List.append_assoc]
        · have h1 := congrArg List.length hu
          have h2 := congrArg List.length hq'
          have h3 : 1 ≤ u.length := Nat.one_le_iff_ne_zero.mpr fun z => hu0 (List.length_eq_zero_iff.mp z)
          rw [List.length_append] at h1 h2
          omega
      have hx4 := ex_l e34 hx2
      have flt : ∀ H5, Ex H4 H5 → VamvsBase.token (c :: r) = none → FaultAt a.c_Fault H5 E ⟨2, p.length⟩ := fun H5 e5 htk => by
        obtain ⟨qs, ts, k1, k2, k3, k4⟩ := L.toks
        have k5 := k4 ((c :: r).length + 1) (Nat.lt_succ_self _)
        rw [lex_tok hc.1 hc.2, htk] at k5
        exact (kF _ k5).go ((L.ex.trans e34).trans e5)
      obtain ⟨xs0, hfl⟩ : ∃ xs, H' f = some (.lst xs) := by
        obtain ⟨qs, ts, k1, k2, k3, k4⟩ := L.toks
        exact ⟨_, k1⟩
      have one : (V.int ((p.length : Int) + 1)) = V.int ((p.length + ([c] : Bytes).length : Nat) : Int) := rfl
      refine q_if (b := VamvsBase.isLetter c) (et_is (et_B (ev_g (ea_cons (ev_byte rfl rfl hx4) ea_nil) spv_letter)) (isLetter_eq c)) (fun hl H5 e5 => ?_) (fun hl H5 e5 => ?_)
      · -- a name
        have hu : c :: r = (c :: r).takeWhile isAlnum ++ (c :: r).dropWhile isAlnum := (List.takeWhile_append_dropWhile).symm
        have hu0 : (c :: r).takeWhile isAlnum ≠ [] := by
          rw [List.takeWhile_cons, if_pos (by unfold isAlnum; rw [hl]; rfl)]
          exact List.cons_ne_nil _ _
        have htk : VamvsBase.token (c :: r) = if 16 < ((c :: r).takeWhile isAlnum).length then none else some (.name ((c :: r).takeWhile isAlnum), ((c :: r).takeWhile isAlnum).length) := by
          unfold VamvsBase.token
          simp only [hl, if_true]
          rfl
        generalize hut : (c :: r).takeWhile isAlnum = u at hu hu0 htk
        generalize (c :: r).dropWhile isAlnum = r' at hu
        have hb3 : b = p ++ (u ++ r') := by rw [L.sp, hu]
        have hx5 : SqL K H5 t (bv (p ++ (u ++ r'))) := by
          rw [← hb3]
          exact ex_l ((L.ex.trans e34).trans e5) hx
        refine q_asg (v := .int ((p.length + u.length : Nat) : Int)) (ev_g (ea_cons (ev_var rfl) (ea_cons (ev_var rfl) ea_nil)) fun H1 e Q k E => ⟨t, p, c :: r, rfl, ?_, ?_⟩) fun H6 e6 => ?_
        · rw [hu]
          exact ex_l e hx5
        · have : (p ++ (c :: r).takeWhile isAlnum).length = p.length + u.length := by rw [List.length_append, ← hut]
          rw [this]
          exact k
        refine ⟨.ref f, rfl, Or.inl ⟨rfl, _, sq_of (e6 _ _ (e5 _ _ (e34 _ _ hfl)))⟩, ?_⟩
        refine ⟨_, rfl, _, rfl, _, rfl, t, p, u, r', rfl, ex_l e6 hx5, ?_, fun hlt => ?_, fun hlt q H7 e7 ht => ?_⟩
        · have := congrArg List.length hb3
          rw [List.length_append, List.length_append] at this
          omega
        · refine flt H6 (e5.trans e6) ?_
          rw [htk, if_pos hlt]
        · rw [if_neg hlt] at htk
          obtain ⟨xs, g1, g2, g3⟩ := fin u r' _ q H7 hu hu0 ((e5.trans e6).trans e7) ht fun n hn => by
            rw [← hu, lex_tok hc.1 hc.2, htk, hu]
            show Except.map _ (VamvsBase.lex n _ (List.drop u.length (u ++ r'))) = _
            rw [List.drop_left]
          exact ⟨f, xs, .ref q, rfl, rfl, g1, g2, g3 _ (Ex.refl _) (fun _ => E0) _ fun _ _ z => z⟩
      refine s_if (b := VamvsBase.isDigit c) (et_is (et_B (ev_g (ea_cons (ev_byte rfl rfl (ex_l e5 hx4)) ea_nil) spv_digit)) (isDigit_eq c)) (fun hd H6 e6 => ?_) (fun hd H6 e6 => ?_)
      · -- a number
        have hu : c :: r = (c :: r).takeWhile VamvsBase.isDigit ++ (c :: r).dropWhile VamvsBase.isDigit := (List.takeWhile_append_dropWhile).symm
        have hut : (c :: r).takeWhile VamvsBase.isDigit = c :: r.takeWhile VamvsBase.isDigit := by rw [List.takeWhile_cons, if_pos hd]
        have hall : ∀ x ∈ c :: r.takeWhile VamvsBase.isDigit, VamvsBase.isDigit x = true := by
          rw [← hut]
          exact tw_all _ _
        have htk : VamvsBase.token (c :: r) = (VamvsBase.numberOf ((c :: r).takeWhile VamvsBase.isDigit)).map fun n => (.num n, ((c :: r).takeWhile VamvsBase.isDigit).length) := by
          unfold VamvsBase.token
          simp only [hl, hd, if_true]
          rfl
        rw [hut] at htk hu
        have hul : (p ++ (c :: r).takeWhile VamvsBase.isDigit).length = p.length + (c :: r.takeWhile VamvsBase.isDigit).length := by rw [List.length_append, hut]
        generalize r.takeWhile VamvsBase.isDigit = u at hu hall htk hul
        generalize (c :: r).dropWhile VamvsBase.isDigit = r' at hu
        have hb3 : b = p ++ (c :: u ++ r') := by rw [L.sp, hu]
        have e56 := e5.trans e6
        have hx5 : SqL K H6 t (bv (p ++ (c :: u ++ r'))) := by
          rw [← hb3]
          exact ex_l ((L.ex.trans e34).trans e56) hx
        refine q_asg (v := .int ((p.length + (c :: u).length : Nat) : Int)) (ev_g (ea_cons (ev_var rfl) (ea_cons (ev_var rfl) ea_nil)) fun H1 e Q k E => ⟨t, p, c :: r, rfl, ?_, ?_⟩) fun H7 e7 => ?_
        · rw [hu]
          exact ex_l e hx5
        · rw [hul]
          exact k
        refine ⟨.ref f, rfl, Or.inl ⟨rfl, _, sq_of (e7 _ _ (e56 _ _ (e34 _ _ hfl)))⟩, ?_⟩
        refine ⟨_, rfl, _, rfl, _, rfl, t, p, u, r', c, rfl, ex_l e7 hx5, ?_, hall, fun hno => ?_, fun n hn q H8 e8 ht => ?_⟩
        · have := congrArg List.length hb3
          rw [List.length_append, List.length_append] at this
          omega
        · refine flt H7 (e56.trans e7) ?_
          rw [htk, hno]
          rfl
        · rw [hn] at htk
          obtain ⟨xs, g1, g2, g3⟩ := fin (c :: u) r' _ q H8 hu (List.cons_ne_nil _ _) ((e56.trans e7).trans e8) ht fun n hn => by
            rw [← hu, lex_tok hc.1 hc.2, htk, hu]
            show Except.map _ (VamvsBase.lex n _ (List.drop (c :: u).length (c :: u ++ r'))) = _
            rw [List.drop_left]
          exact ⟨f, xs, .ref q, rfl, rfl, g1, g2, g3 _ (Ex.refl _) (fun _ => E0) _ fun _ _ z => z⟩
      refine s_if (b := VamvsBase.SIGNS.contains c) (et_is (et_test (ev_op (ev_byte rfl rfl (ex_l (e5.trans e6) hx4)) ev_c fun H1 _ Q q => ⟨_, rfl, rfl, q H1 (Ex.refl _)⟩)) ?_) (fun hs H7 e7 => ?_) (fun hs H7 e7 => ?_)
      · rw [sign_at]
        cases VamvsBase.SIGNS.contains c <;> rfl
      · -- a sign
        have e57 := (e5.trans e6).trans e7
        have htk : VamvsBase.token (c :: r) = some (.sign c.toNat, 1) := by
          unfold VamvsBase.token
          simp only [hl, hd, hs, if_true]
          rfl
        have hx7 := ex_l e57 hx4
        refine ⟨.ref f, rfl, Or.inl ⟨rfl, _, sq_of (e57 _ _ (e34 _ _ hfl))⟩, ?_⟩
        refine en_token (ea_cons ev_c (ea_cons (x := .str ⟨#[c.toNat]⟩) (ev_op ev_c (ev_byte rfl rfl hx7) fun H1 _ Q q => ⟨_, _, rfl, rfl, (sign_at c).trans (if_pos hs), q H1 (Ex.refl _)⟩) (ea_cons (ev_var rfl) ea_nil))) H7 (Ex.refl _) _ fun q dx H8 _ e8 h8 => ?_
        · obtain ⟨xs, g1, g2, g3⟩ := fin [c] r _ q H8 rfl (List.cons_ne_nil _ _) (e57.trans e8) ⟨dx, _, _, h8, .sign _⟩ fun n hn => by
            show VamvsBase.lex (n + 1) p.length (c :: r) = _
            rw [lex_tok hc.1 hc.2, htk]
            rfl
          exact ⟨f, xs, .ref q, rfl, rfl, g1, g2, g3 _ (Ex.refl _) (fun _ => E0) _ fun _ _ z => z⟩
      · refine s_raiseF (ea_cons ev_c (ea_cons (ev_var rfl) ea_nil)) (flt H7 ((e5.trans e6).trans e7) ?_)
        unfold VamvsBase.token
        simp only [hl, hd, hs]
        rfl
end
end BA

namespace BA
open PySem PySem.Spec PyProof.Rows L2 Evl
open VamvsBase (Bytes Fault PTok Tok Toks RESERVED)

/-! ### a table as it lies in the heap -/
def NamL (H : Hp) (ns : List Addr) (cs : List Bytes) : Prop := Paired (fun n b => H n = some (.tup (bv b))) ns cs
def vI (l : List Nat) : List V := l.map fun n : Nat => V.int (n : Int)
def RowL (H : Hp) (rs : List Addr) (rows : List Vamvsa.Row) : Prop := Paired (fun p x => ∃ v, H p = some (.tup [.ref v, .int x.m]) ∧ H v = some (.tup (vI x.vs))) rs rows
def AskL (H : Hp) (qs : List Addr) (asks : List Vamvsa.Ask) : Prop := Paired (fun p x => H p = some (.tup [.int (x.g : Nat), .int (x.k : Nat)])) qs asks
theorem prs_imp {α β : Type} {R S : α → β → Prop} (h : ∀ a b, R a b → S a b) : ∀ {xs : List α} {ys : List β}, Paired R xs ys → Paired S xs ys
  | _, _, .nil => .nil
  | _, _, .cons a r => .cons (h _ _ a) (prs_imp h r)
theorem prs_snoc {α β : Type} {R : α → β → Prop} {a : α} {b : β} : ∀ {xs : List α} {ys : List β}, Paired R xs ys → R a b → Paired R (xs ++ [a]) (ys ++ [b])
  | _, _, .nil, h => .cons h .nil
  | _, _, .cons x r, h => .cons x (prs_snoc r h)
theorem prs_len {α β : Type} {R : α → β → Prop} {xs : List α} {ys : List β} (h : Paired R xs ys) : xs.length = ys.length := Paired.length h
theorem prs_get {α β : Type} {R : α → β → Prop} : ∀ {xs : List α} {ys : List β} {i : Nat} {y : β}, Paired R xs ys → ys[i]? = some y → ∃ x, xs[i]? = some x ∧ R x y
  | _, _, _, _, .nil, e => by simp at e
  | _, _, 0, _, .cons r _, e => by simp at e; subst e; exact ⟨_, rfl, r⟩
  | _, _, i + 1, y, .cons _ t, e => by
    obtain ⟨u, h1, h2⟩ := prs_get (i := i) (y := y) t (by simpa using e)
    exact ⟨u, by simpa using h1, h2⟩
theorem prs_getL {α β : Type} {R : α → β → Prop} : ∀ {xs : List α} {ys : List β} {i : Nat} {x : α}, Paired R xs ys → xs[i]? = some x → ∃ y, ys[i]? = some y ∧ R x y
  | _, _, _, _, .nil, e => by simp at e
  | _, _, 0, _, .cons r _, e => by simp at e; subst e; exact ⟨_, rfl, r⟩
  | _, _, i + 1, y, .cons _ t, e => by
    obtain ⟨u, h1, h2⟩ := prs_getL (i := i) (x := y) t (by simpa using e)
    exact ⟨u, by simpa using h1, h2⟩
/-- the places of a table -/
structure TG_ where
  tb : Addr
  c : Addr
  r : Addr
  q : Addr
  ns : List Addr
  rs : List Addr
  qs : List Addr
def tabF (g : TG_) : List (Str × V) := [("columns", .ref g.c), ("rows", .ref g.r), ("questions", .ref g.q)]
structure TabAt (C : Addr) (H : Hp) (g : TG_) (t : Vamvsa.Table) : Prop where
  tb : ∃ dx, H g.tb = some (.ins C dx (tabF g))
  c : H g.c = some (.lst (refs g.ns))
  r : H g.r = some (.lst (refs g.rs))
  q : H g.q = some (.lst (refs g.qs))
  ns : NamL H g.ns t.cols
  rs : RowL H g.rs t.rows
  qs : AskL H g.qs t.asks
theorem TabAt.ex {C : Addr} {H H' : Hp} {g : TG_} {t : Vamvsa.Table} (x : TabAt C H g t) (e : Ex H H') : TabAt C H' g t := by
  obtain ⟨⟨dx, h1⟩, h2, h3, h4, h5, h6, h7⟩ := x
  exact ⟨⟨dx, e _ _ h1⟩, e _ _ h2, e _ _ h3, e _ _ h4, prs_imp (fun _ _ z => e _ _ z) h5, prs_imp (fun _ _ ⟨v, z1, z2⟩ => ⟨v, e _ _ z1, e _ _ z2⟩) h6, prs_imp (fun _ _ z => e _ _ z) h7⟩
def emptyT : Vamvsa.Table := ⟨[], [], []⟩

/-! ### the parser as it lies in the heap -/
inductive LastOk : Toks → Prop
  | one (p : Nat) : LastOk [⟨p, .last⟩]
  | cons {t : PTok} {r : Toks} : t.tok ≠ .last → LastOk r → LastOk (t :: r)
/-- its places: itself, its tokens' list, the tokens, the three lists of its table with what they hold -/
structure PG_ where
  pa : Addr
  ta : Addr
  ks : List Addr
  ts : Toks
  tb : Addr
  c : Addr
  r : Addr
  q : Addr
def PG_.muts (g : PG_) : List Addr := [g.pa, g.c, g.r, g.q]
def parF (g : PG_) (i : Nat) : List (Str × V) := [("tokens", .ref g.ta), ("at", .int (i : Nat)), ("table", .ref g.tb)]
structure PSt (a : Ad) (H : Hp) (g : PG_) (l : Toks) (t : Vamvsa.Table) : Prop where
  pa : ∃ dx l0, g.ts = l0 ++ l ∧ H g.pa = some (.ins a.c_Parser dx (parF g l0.length))
  ta : H g.ta = some (.lst (refs g.ks))
  ks : TokL a.c_Token H g.ks g.ts
  ok : LastOk l
  tab : ∃ ns rs qs, TabAt a.c_Table H ⟨g.tb, g.c, g.r, g.q, ns, rs, qs⟩ t
  ap : g.c ≠ g.r ∧ g.c ≠ g.q ∧ g.r ≠ g.q ∧ g.ta ≠ g.c ∧ g.ta ≠ g.r ∧ g.ta ≠ g.q
/-- a fault goes out, the parser's own things may have changed -/
def FaultM (CF : Addr) (g : PG_) (H : Hp) (E : XK) (f : Fault) : Prop := ∀ d H', FrL g.muts H H' → H' d = some (.xd [("place", .int f.place), ("code", .int f.code)]) → E (.ref CF) (some d) H'
theorem FaultM.go {CF : Addr} {g : PG_} {H H' : Hp} {E : XK} {f : Fault} (h : FaultM CF g H E f) (e : FrL g.muts H H') : FaultM CF g H' E f := fun d H2 e2 hd => h d H2 (e.trans e2) hd
theorem FaultM.at {CF : Addr} {g : PG_} {H : Hp} {E : XK} {f : Fault} (h : FaultM CF g H E f) : FaultAt CF H E f := fun d H' e hd => h d H' (FrL.ex e) hd
theorem PSt.ex {a : Ad} {H H' : Hp} {g : PG_} {l : Toks} {t : Vamvsa.Table} (x : PSt a H g l t) (e : Ex H H') : PSt a H' g l t := by
  obtain ⟨⟨dx, l0, h1, h2⟩, h3, h4, h5, ⟨ns, rs, qs, h6⟩, h7⟩ := x
  exact ⟨⟨dx, l0, h1, e _ _ h2⟩, e _ _ h3, h4.ex e, h5, ⟨ns, rs, qs, h6.ex e⟩, h7⟩
/-- nothing of the table or the tokens lies at the parser -/
theorem PSt.upPa {a : Ad} {H : Hp} {g : PG_} {l l' : Toks} {t : Vamvsa.Table} {dx : Addr} {l0 l1 : Toks} (x : PSt a H g l t) (h : H g.pa = some (.ins a.c_Parser dx (parF g l0.length))) (e : g.ts = l1 ++ l') (ok : LastOk l') :
    PSt a (upd H g.pa (.ins a.c_Parser dx (parF g l1.length))) g l' t := by
  obtain ⟨_, h3, h4, h5, ⟨ns, rs, qs, ⟨dy, k1⟩, k2, k3, k4, k5, k6, k7⟩, h7⟩ := x
  have nl : ∀ {b : Addr} {xs : List V}, H b = some (.lst xs) → b ≠ g.pa := fun hb => ne_of hb h (by intro z; cases z)
  have nt : ∀ {b : Addr} {xs : List V}, H b = some (.tup xs) → b ≠ g.pa := fun hb => ne_of hb h (by intro z; cases z)
  have kp : ∀ {b : Addr} {o : HO}, b ≠ g.pa → H b = some o → upd H g.pa (.ins a.c_Parser dx (parF g l1.length)) b = some o := fun n hb => by rw [upd_ne n]; exact hb
  refine ⟨⟨dx, l1, e, upd_same⟩, kp (nl h3) h3, prs_imp (fun q tk z => ?_) h4, ok, ⟨ns, rs, qs, ⟨dy, kp (ne_of k1 h ?_) k1⟩, kp (nl k2) k2, kp (nl k3) k3, kp (nl k4) k4, prs_imp (fun _ _ z => kp (nt z) z) k5, prs_imp (fun _ _ ⟨v, z1, z2⟩ => ⟨v, kp (nt z1) z1, kp (nt z2) z2⟩) k6, prs_imp (fun _ _ z => kp (nt z) z) k7⟩, h7⟩
  · obtain ⟨pl, tk⟩ := tk
    obtain ⟨dz, k, v, z1, z2⟩ := z
    refine ⟨dz, k, v, kp (ne_of z1 h ?_) z1, ?_⟩
    · intro w
      injection w with _ _ w
      injection w with w _
      injection w with w _
      exact absurd w (by decide +kernel)
    · cases z2 with
      | name n1 n2 => exact .name n1 (kp (nt n2) n2)
      | word h => exact .word h
      | num n => exact .num n
      | sign c => exact .sign c
      | last => exact .last
  · intro w
    injection w with _ _ w
    injection w with w _
    injection w with w _
    exact absurd w (by decide +kernel)
theorem LastOk.ne {l : Toks} (h : LastOk l) : ∃ t r, l = t :: r := by
  cases h with
  | one p => exact ⟨_, _, rfl⟩
  | cons _ _ => exact ⟨_, _, rfl⟩
theorem LastOk.tail {t : PTok} {r : Toks} (h : LastOk (t :: r)) (n : t.tok ≠ .last) : LastOk r := by
  cases h with
  | one p => exact absurd rfl n
  | cons _ h => exact h

def sp_Table_init (a : Ad) : Sp := fun vs H Q _ => ∃ (x dx : Addr), vs = [.ref x] ∧ H x = some (.ins a.c_Table dx []) ∧
  ∀ H' (c r q : Addr), H c = none → H r = none → H q = none → c ≠ r → c ≠ q → r ≠ q → H' x = some (.ins a.c_Table dx [("columns", .ref c), ("rows", .ref r), ("questions", .ref q)]) → H' c = some (.lst []) → H' r = some (.lst []) → H' q = some (.lst []) → FrL [x] H H' → Q .non H'
def sp_Table_groupings (a : Ad) : Sp := fun vs H Q _ => ∃ (x dx c r q : Addr) (ns : List V), vs = [.ref x] ∧ H x = some (.ins a.c_Table dx [("columns", .ref c), ("rows", .ref r), ("questions", .ref q)]) ∧ H c = some (.lst ns) ∧ ns.length ≤ 4 ∧ RetV (.int ((2 ^ ns.length : Nat) : Int)) H Q
section
variable {P : Program} {w : World} {K : PySem.W.Frag} {mg : Str → Option Value} {base : Heap} {a : Ad} {H H' : Hp} {t : Addr} {σ : L2.St}
theorem ok_Table_init (T : Txt K mg a) : Good P w K mg base 1 a.f_Table_init ["self"] (sp_Table_init a) := by
  obtain ⟨fd, F⟩ := T.F_Table_init
  refine ⟨⟨fd, F.okX sc_Table_init (fun vs H Q E h => ?_) (fun cdv A outer s H vs Q E hr h => ⟨_, (pss_cons (ps_fld (pv 0) (pe_lst pa_nil) rfl)
    (pss_cons (ps_fld (pv 0) (pe_lst pa_nil) rfl)
    (pss_one (ps_fld (pv 0) (pe_lst pa_nil) rfl)))), ?_⟩), F.binds fun _ _ _ _ _ _ us hl => match us, hl with | [_], _ => rfl⟩, T.k_Table_init⟩
  · obtain ⟨x, dx, rfl, _⟩ := h
    rfl
  · obtain ⟨x, dx, rfl, hx, k⟩ := h
    refine q_fldL (el_lst ea_nil (by decide)) (ev_var rfl) hx T.cl_Table T.n_Table_columns (by decide) fun c H1 hc e1 h1 => ?_
    have n1 : c ≠ x := (ne_of_none hx hc).symm
    refine q_fldL (el_lst ea_nil (by decide)) (ev_var rfl) upd_same T.cl_Table T.n_Table_rows (by show (1 : Nat) ≤ 900; decide) fun r H2 hr e2 h2 => ?_
    have hcx : upd H1 x (.ins a.c_Table dx (putF "columns" (.ref c) [])) c = some (.lst []) := by rw [upd_ne n1]; exact h1
    have n2 : r ≠ x := (ne_of_none upd_same hr).symm
    have hr0 : H r = none := fresh_back e1 (by rw [upd_ne n2] at hr; exact hr)
    have n3 : c ≠ r := ne_of_none hcx hr
    refine s_fldL (el_lst ea_nil (by decide)) (ev_var rfl) upd_same T.cl_Table T.n_Table_questions (by show (2 : Nat) ≤ 900; decide) fun q H3 hq e3 h3 => ?_
    have hc2 : upd H2 x (.ins a.c_Table dx (putF "rows" (.ref r) (putF "columns" (.ref c) []))) c = some (.lst []) := by rw [upd_ne n1]; exact e2 _ _ hcx
    have hr2 : upd H2 x (.ins a.c_Table dx (putF "rows" (.ref r) (putF "columns" (.ref c) []))) r = some (.lst []) := by rw [upd_ne n2]; exact h2
    have n4 : q ≠ x := (ne_of_none upd_same hq).symm
    have hq2 : H2 q = none := by rw [upd_ne n4] at hq; exact hq
    have hq1 : H1 q = none := by
      have := fresh_back e2 hq2
      rw [upd_ne n4] at this
      exact this
    refine k _ c r q hc hr0 (fresh_back e1 hq1) n3 (ne_of_none hc2 hq) (ne_of_none hr2 hq) upd_same ?_ ?_ ?_ ?_
    · rw [upd_ne n1]; exact e3 _ _ hc2
    · rw [upd_ne n2]; exact e3 _ _ hr2
    · rw [upd_ne n4]; exact h3
    · exact (((FrL.ex e1).trans (FrL.up (by simp))).trans ((FrL.ex e2).trans (FrL.up (by simp)))).trans ((FrL.ex e3).trans (FrL.up (by simp)))
theorem weights_at {n : Nat} (h : n ≤ 4) : ([.int 1, .int 2, .int 4, .int 8, .int 16] : List V)[n]? = some (.int ((2 ^ n : Nat) : Int)) := by
  have : ∀ n, n < 5 → ([.int 1, .int 2, .int 4, .int 8, .int 16] : List V)[n]? = some (.int ((2 ^ n : Nat) : Int)) := by decide +kernel
  exact this n (by omega)
theorem ok_Table_groupings (T : Txt K mg a) : Good P w K mg base 1 a.f_Table_groupings ["self"] (sp_Table_groupings a) := by
  obtain ⟨fd, F⟩ := T.F_Table_groupings
  refine ⟨⟨fd, F.okX sc_Table_groupings (fun vs H Q E h => ?_) (fun cdv A outer s H vs Q E hr h => ⟨_, (pss_one (ps_ret (pe_ix ix_tup (pe_gr rfl T.m_WEIGHTS) (pe_callB call_len_seq (by rfl) T.b_len (by decide +kernel) (pa_cons (pe_fld (pv 0) rfl) pa_nil)) (fun _ _ => rfl)))), ?_⟩), F.binds fun _ _ _ _ _ _ us hl => match us, hl with | [_], _ => rfl⟩, T.k_Table_groupings⟩
  · obtain ⟨x, dx, c, r, q, ns, rfl, _⟩ := h
    rfl
  · obtain ⟨x, dx, c, r, q, ns, rfl, hx, hc, hn, k⟩ := h
    exact s_ret (ev_op ev_c (ev_len (ev_fld (ev_var rfl) hx T.cl_Table T.n_Table_columns lk_here) (sq_of hc)) (rv_ixT (T.t_WEIGHTS _) (atI_nat (weights_at hn)))) k
end
end BA

namespace BA
open PySem PySem.Spec PyProof.Rows L2 Evl
open VamvsBase (Bytes Fault PTok Toks RESERVED)
abbrev BTok := VamvsBase.Tok

/-! ### the parser's small methods -/
theorem parF_tokens (g : PG_) (i : Nat) : (parF g i).lookup ("tokens" : Str) = some (.ref g.ta) := lk_here
theorem parF_at (g : PG_) (i : Nat) : (parF g i).lookup ("at" : Str) = some (.int (i : Nat)) := (lk_past (by decide +kernel)).trans lk_here
theorem parF_table (g : PG_) (i : Nat) : (parF g i).lookup ("table" : Str) = some (.ref g.tb) := (lk_past (by decide +kernel)).trans ((lk_past (by decide +kernel)).trans lk_here)
theorem parF_none {m : Str} (g : PG_) (i : Nat) (h1 : (m == ("tokens" : Str)) = false) (h2 : (m == ("at" : Str)) = false) (h3 : (m == ("table" : Str)) = false) : (parF g i).lookup m = none := (lk_past h1).trans ((lk_past h2).trans (lk_past h3))
theorem put_here {f : Str} {v x : V} {r : List (Str × V)} : putF f v ((f, x) :: r) = (f, v) :: r := if_pos rfl
theorem put_past {f g : Str} {v x : V} {r : List (Str × V)} (h : ¬ g = f) : putF f v ((g, x) :: r) = (g, x) :: putF f v r := if_neg h
theorem parF_put (g : PG_) (i : Nat) : putF "at" (.int ((i : Int) + 1)) (parF g i) = parF g (i + 1) := (put_past (by decide +kernel)).trans (congrArg _ put_here)
theorem tkF_kind (k : Str) (v : V) (p : Nat) : (tkF k v p).lookup ("kind" : Str) = some (.str k) := lk_here
theorem tkF_value (k : Str) (v : V) (p : Nat) : (tkF k v p).lookup ("value" : Str) = some v := (lk_past (by decide +kernel)).trans lk_here
theorem tkF_place (k : Str) (v : V) (p : Nat) : (tkF k v p).lookup ("place" : Str) = some (.int (p : Nat)) := (lk_past (by decide +kernel)).trans ((lk_past (by decide +kernel)).trans lk_here)
/-- where the next token lies -/
def hereQ (g : PG_) (l : Toks) : Option Addr := g.ks[g.ts.length - l.length]?
theorem PSt.here {a : Ad} {H : Hp} {g : PG_} {l : Toks} {t : Vamvsa.Table} (x : PSt a H g l t) : ∃ q tk r, l = tk :: r ∧ hereQ g l = some q ∧ TokAt a.c_Token H q tk := by
  obtain ⟨dx, l0, h1, h2⟩ := x.pa
  obtain ⟨tk, r, rfl⟩ := x.ok.ne
  have e : g.ts[l0.length]? = some tk := by
    rw [h1, List.getElem?_append_right (Nat.le_refl _), Nat.sub_self]
    rfl
  obtain ⟨q, k1, k2⟩ := prs_get x.ks e
  refine ⟨q, tk, r, rfl, ?_, k2⟩
  unfold hereQ
  rw [h1, List.length_append, Nat.add_sub_cancel]
  exact k1
/-- a word or a sign as the text writes it -/
def kvOf : BTok → Option (Str × Str)
  | .name b => if RESERVED.contains b = true then some ("word", strOf b) else none
  | .sign c => some ("sign", ⟨#[c]⟩)
  | _ => none
theorem kv_name {b : Bytes} {k v : Str} (h : kvOf (.name b) = some (k, v)) : RESERVED.contains b = true ∧ k = "word" ∧ v = strOf b := by
  have e : (if RESERVED.contains b = true then some (("word" : Str), strOf b) else none) = some (k, v) := h
  by_cases hb : RESERVED.contains b = true
  · rw [if_pos hb] at e
    injection e with e
    injection e with e1 e2
    exact ⟨hb, e1.symm, e2.symm⟩
  · rw [if_neg hb] at e
    cases e
theorem kv_sign {c : Nat} {k v : Str} (h : kvOf (.sign c) = some (k, v)) : k = "sign" ∧ v = ⟨#[c]⟩ := by
  injection h with e
  injection e with e1 e2
  exact ⟨e1.symm, e2.symm⟩
theorem kv_mk {b : Bytes} (h : RESERVED.contains b = true) : kvOf (.name b) = some (("word" : Str), strOf b) := if_pos h
theorem strOf_inj {b c : Bytes} (h : strOf b = strOf c) : b = c := by
  have e : ci (strOf b) = ci (strOf c) := by rw [h]
  rw [ci_strOf, ci_strOf] at e
  exact bi_inj.mp e
theorem tok_eq {H : Hp} {tk t0 : BTok} {k k0 v0 : Str} {v : V} (h : TkV H tk k v) (h0 : kvOf t0 = some (k0, v0)) : (decide (V.str k = V.str k0) && decide (v = V.str v0)) = VamvsBase.tokEq tk t0 := by
  have ns : ∀ {x y : Str}, x ≠ y → decide (V.str x = V.str y) = false := fun n => decide_eq_false fun e => n (V.str.inj e)
  cases t0 with
  | name b0 =>
    obtain ⟨hb, rfl, rfl⟩ := kv_name h0
    cases h with
    | @name b qq n1 n2 =>
      rw [ns (by decide +kernel), Bool.false_and]
      symm
      show (_ == b0) = false
      rw [beq_eq_false_iff_ne]
      intro e
      rw [e, hb] at n1
      cases n1
    | @word b h =>
      rw [decide_eq_true (rfl : V.str "word" = V.str "word"), Bool.true_and]
      show _ = (b == b0)
      rw [Bool.eq_iff_iff, decide_eq_true_iff, beq_iff_eq]
      exact ⟨fun e => strOf_inj (V.str.inj e), fun e => by rw [e]⟩
    | num n => rw [ns (by decide +kernel), Bool.false_and]; rfl
    | sign c => rw [ns (by decide +kernel), Bool.false_and]; rfl
    | last => rw [ns (by decide +kernel), Bool.false_and]; rfl
  | sign c0 =>
    obtain ⟨rfl, rfl⟩ := kv_sign h0
    cases h with
    | name n1 n2 => rw [ns (by decide +kernel), Bool.false_and]; rfl
    | word h => rw [ns (by decide +kernel), Bool.false_and]; rfl
    | num n => rw [ns (by decide +kernel), Bool.false_and]; rfl
    | sign c =>
      rw [decide_eq_true (rfl : V.str "sign" = V.str "sign"), Bool.true_and]
      show _ = (c == c0)
      rw [Bool.eq_iff_iff, decide_eq_true_iff, beq_iff_eq]
      refine ⟨fun e => ?_, fun e => by rw [e]⟩
      injection e with e
      injection e with e
      have := congrArg Array.toList e
      simpa using this
    | last => rw [ns (by decide +kernel), Bool.false_and]; rfl
  | num n => cases h0
  | last => cases h0
theorem kv_scal {H : Hp} {tk t0 : BTok} {k k0 v0 : Str} {v : V} (h : TkV H tk k v) (h0 : kvOf t0 = some (k0, v0)) (e : k = k0) : scal v (.str v0) = true := by
  subst e
  cases h with
  | name n1 n2 =>
    cases t0 with
    | name b0 => exact absurd (kv_name h0).2.1 (by decide +kernel)
    | sign c0 => exact absurd (kv_sign h0).1 (by decide +kernel)
    | num n => cases h0
    | last => cases h0
  | word h => rfl
  | num n => rfl
  | sign c => rfl
  | last => rfl
theorem next_cons (t0 : BTok) (tk : PTok) (r : Toks) : VamvsBase.next t0 (tk :: r) = VamvsBase.tokEq tk.tok t0 := rfl
theorem next_ne {t0 : BTok} {tk : PTok} {r : Toks} {k0 v0 : Str} (h0 : kvOf t0 = some (k0, v0)) (h : VamvsBase.next t0 (tk :: r) = true) : tk.tok ≠ .last := by
  intro e
  rw [next_cons, e] at h
  cases t0 with
  | last => cases h0
  | _ => cases h

def sp_Parser_init (a : Ad) : Sp := fun vs H Q _ => ∃ (x dx ta : Addr), vs = [.ref x, .ref ta] ∧ H x = some (.ins a.c_Parser dx []) ∧
  ∀ H' (tb c r q : Addr), H tb = none → H c = none → H r = none → H q = none → c ≠ r → c ≠ q → r ≠ q → H' x = some (.ins a.c_Parser dx [("tokens", .ref ta), ("at", .int 0), ("table", .ref tb)]) →
    TabAt a.c_Table H' ⟨tb, c, r, q, [], [], []⟩ emptyT → FrL [x] H H' → Q .non H'
def sp_here (a : Ad) : Sp := fun vs H Q _ => ∃ (g : PG_) (l : Toks) (t : Vamvsa.Table) (q : Addr), vs = [.ref g.pa] ∧ PSt a H g l t ∧ hereQ g l = some q ∧ RetV (.ref q) H Q
def sp_fail_if (a : Ad) : Sp := fun vs H Q E => ∃ (g : PG_) (l : Toks) (t : Vamvsa.Table) (b : Bool) (n : Nat), vs = [.ref g.pa, .bl b, .int (n : Nat)] ∧ PSt a H g l t ∧
  (b = true → FaultAt a.c_Fault H E ⟨n, VamvsBase.here l⟩) ∧ (b = false → RetV .non H Q)
def sp_comes (a : Ad) : Sp := fun vs H Q _ => ∃ (g : PG_) (l : Toks) (t : Vamvsa.Table) (t0 : BTok) (k0 v0 : Str), vs = [.ref g.pa, .str k0, .str v0] ∧ kvOf t0 = some (k0, v0) ∧ PSt a H g l t ∧ RetV (.bl (VamvsBase.next t0 l)) H Q
def sp_take (a : Ad) : Sp := fun vs H Q E => ∃ (g : PG_) (l : Toks) (t : Vamvsa.Table) (t0 : BTok) (k0 v0 : Str), vs = [.ref g.pa, .str k0, .str v0] ∧ kvOf t0 = some (k0, v0) ∧ PSt a H g l t ∧
  (VamvsBase.next t0 l = false → FaultAt a.c_Fault H E ⟨3, VamvsBase.here l⟩) ∧ (VamvsBase.next t0 l = true → ∀ H', PSt a H' g (l.drop 1) t → FrL g.muts H H' → Q .non H')
def sp_passes (a : Ad) : Sp := fun vs H Q _ => ∃ (g : PG_) (l : Toks) (t : Vamvsa.Table) (t0 : BTok) (k0 v0 : Str), vs = [.ref g.pa, .str k0, .str v0] ∧ kvOf t0 = some (k0, v0) ∧ PSt a H g l t ∧
  ∀ H', PSt a H' g (if VamvsBase.next t0 l = true then l.drop 1 else l) t → FrL g.muts H H' → Q (.bl (VamvsBase.next t0 l)) H'
def sp_take_number (a : Ad) : Sp := fun vs H Q E => ∃ (g : PG_) (l : Toks) (t : Vamvsa.Table) (low high : Nat), vs = [.ref g.pa, .int (low : Nat), .int (high : Nat)] ∧ PSt a H g l t ∧
  (∀ f, takeNum low high l = .error f → FaultAt a.c_Fault H E f) ∧ (∀ n l', takeNum low high l = .ok (n, l') → ∀ H', PSt a H' g l' t → FrL g.muts H H' → Q (.int (n : Nat)) H')
section
variable {P : Program} {w : World} {K : PySem.W.Frag} {mg : Str → Option Value} {base : Heap} {a : Ad} {H H' : Hp} {σ : L2.St} {g : PG_} {l : Toks} {t : Vamvsa.Table} {D : Ends} {tz : TS}
theorem ok_Parser_init (T : Txt K mg a) : Good P w K mg base 3 a.f_Parser_init ["self", "tokens"] (sp_Parser_init a) := by
  obtain ⟨fd, F⟩ := T.F_Parser_init
  refine ⟨⟨fd, F.okX sc_Parser_init (fun vs H Q E h => ?_) (fun cdv A outer s H vs Q E hr h => ⟨_, (pss_cons (ps_fld (pv 0) (pv 1) rfl)
    (pss_cons (ps_fld (pv 0) pe_int rfl)
    (pss_one (ps_fld (pv 0) (pe_gc0 (ok_Table_init T) T.mk_Table (hr.mono (by decide)) rfl T.m_Table) rfl)))), ?_⟩), F.binds fun _ _ _ _ _ _ us hl => match us, hl with | [_, _], _ => rfl⟩, T.k_Parser_init⟩
  · obtain ⟨x, dx, ta, rfl, _⟩ := h
    rfl
  · obtain ⟨x, dx, ta, rfl, hx, k⟩ := h
    refine q_fld (ev_var rfl) (ev_var rfl) hx T.cl_Parser T.n_Parser_tokens (by decide) fun H1 e1 => ?_
    refine q_fld ev_c (ev_var rfl) upd_same T.cl_Parser T.n_Parser_at (by show (1 : Nat) ≤ 900; decide) fun H2 e2 => ?_
    have f2 : FrL [x] H (upd H2 x (.ins a.c_Parser dx (putF "at" (.int 0) (putF "tokens" (.ref ta) [])))) := ((FrL.ex e1).trans (FrL.up (by simp))).trans ((FrL.ex e2).trans (FrL.up (by simp)))
    generalize hH3 : upd H2 x (.ins a.c_Parser dx (putF "at" (.int 0) (putF "tokens" (.ref ta) []))) = H3 at f2
    have hx3 : H3 x = some (.ins a.c_Parser dx (putF "at" (.int 0) (putF "tokens" (.ref ta) []))) := by rw [← hH3]; exact upd_same
    have back : ∀ {b : Addr}, b ≠ x → H3 b = none → H b = none := fun {b} n hb => by
      cases z : H b with
      | none => rfl
      | some o =>
        rw [f2 b o z (by simpa using n)] at hb
        cases hb
    intro tb dt htb hdt hne
    have ntx : tb ≠ x := (ne_of_none hx3 htb).symm
    have e4 : Ex H3 (upd (upd H3 dt (.own tb)) tb (.ins a.c_Table dt [])) := Ex.mut (Ex.new hdt) htb
    refine ⟨tb, dt, rfl, upd_same, fun H5 c r q hc hr hq n1 n2 n3 h1 h2 h3 h4 f5 => ⟨rfl, ?_⟩⟩
    have fx : ∀ {b : Addr}, upd (upd H3 dt (.own tb)) tb (.ins a.c_Table dt []) b = none → H3 b = none := fun hb => fresh_back e4 hb
    have hx5 : H5 x = some (.ins a.c_Parser dx (putF "at" (.int 0) (putF "tokens" (.ref ta) []))) := f5 x _ (e4 _ _ hx3) (by simpa using ntx.symm)
    have nc : c ≠ x := (ne_of_none hx3 (fx hc)).symm
    have nr : r ≠ x := (ne_of_none hx3 (fx hr)).symm
    have nq : q ≠ x := (ne_of_none hx3 (fx hq)).symm
    refine ⟨.ref x, rfl, x, _, dx, _, rfl, hx5, T.cl_Parser, T.n_Parser_table, (by show (2 : Nat) < 1000; decide), ?_⟩
    refine k _ tb c r q (back ntx htb) (back nc (fx hc)) (back nr (fx hr)) (back nq (fx hq)) n1 n2 n3 upd_same ⟨⟨dt, ?_⟩, ?_, ?_, ?_, .nil, .nil, .nil⟩ ?_
    · rw [upd_ne ntx]; exact h1
    · rw [upd_ne nc]; exact h2
    · rw [upd_ne nr]; exact h3
    · rw [upd_ne nq]; exact h4
    · intro b o hb nb
      have nb' : b ≠ x := by simpa using nb
      rw [upd_ne nb']
      have h3b := f2 b o hb nb
      exact f5 b o (e4 b o h3b) (by simpa using ne_of_none h3b htb)
theorem ok_Parser_here (T : Txt K mg a) : Good P w K mg base 1 a.f_Parser_here ["self"] (sp_here a) := by
  obtain ⟨fd, F⟩ := T.F_Parser_here
  refine ⟨⟨fd, F.okX sc_Parser_here (fun vs H Q E h => ?_) (fun cdv A outer s H vs Q E hr h => ⟨_, (pss_one (ps_ret (pe_ix ix_list (pe_fld (pv 0) rfl) (pe_fld (pv 0) rfl) (fun _ _ => rfl)))), ?_⟩), F.binds fun _ _ _ _ _ _ us hl => match us, hl with | [_], _ => rfl⟩, T.k_Parser_here⟩
  · obtain ⟨g, l, t, q, rfl, _⟩ := h
    rfl
  · obtain ⟨g, l, t, q, rfl, S, hq, k⟩ := h
    obtain ⟨dx, l0, h1, h2⟩ := S.pa
    refine s_ret (ev_op (ev_fld (ev_var rfl) h2 T.cl_Parser T.n_Parser_tokens (parF_tokens _ _)) (ev_fld (ev_var rfl) h2 T.cl_Parser T.n_Parser_at (parF_at _ _)) (rv_ixL (sq_of S.ta) (atI_nat ?_))) k
    unfold hereQ at hq
    rw [h1, List.length_append, Nat.add_sub_cancel] at hq
    unfold refs
    rw [List.getElem?_map, hq]
    rfl
/-- self.here() -/
theorem ev_here {q : Addr} {E : L2.St → XK} (h0 : σ[0]? = some (some (.ref g.pa))) (S : PSt a H g l t) (hq : hereQ g l = some q) : Ev (tGM a.c_Parser "here" (sp_here a) E (tVar 0) tNil) σ H (.ref q) := by
  obtain ⟨dx, l0, h1, h2⟩ := S.pa
  exact ev_gm (ev_var h0) h2 (parF_none _ _ (by decide +kernel) (by decide +kernel) (by decide +kernel)) ea_nil fun H1 e Q k E => ⟨g, l, t, q, rfl, S.ex e, hq, k⟩
theorem ok_Parser_fail_if (T : Txt K mg a) : Good P w K mg base 3 a.f_Parser_fail_if ["self", "is_so", "code"] (sp_fail_if a) := by
  obtain ⟨fd, F⟩ := T.F_Parser_fail_if
  refine ⟨⟨fd, F.okX sc_Parser_fail_if (fun vs H Q E h => ?_) (fun cdv A outer s H vs Q E hr h => ⟨_, (pss_one (ps_if (pt_val (pv 1))
      (pss_one (ps_raiseFault rfl T.x_Fault (hr.mono (by decide)) (takes_of rfl rfl rfl rfl) (pa_cons (pv 2) (pa_cons (pe_fld (pe_gm0 (ok_Parser_here T) (pv 0) T.cl_Parser T.me_Parser_here (hr.mono (by decide)) (E := fun _ => E0) px0) rfl) pa_nil))))
      pss_nil)), ?_⟩), F.binds fun _ _ _ _ _ _ us hl => match us, hl with | [_, _, _], _ => rfl⟩, T.k_Parser_fail_if⟩
  · obtain ⟨g, l, t, b, n, rfl, _⟩ := h
    rfl
  · obtain ⟨g, l, t, b, n, rfl, S, kF, kR⟩ := h
    refine s_when (b := b) (et_B (ev_var rfl)) (fun hb H1 e1 => ?_) (fun hb H1 e1 => kR hb _ e1)
    have S1 := S.ex e1
    obtain ⟨q, tk, r, rfl, hq, dz, k1, v1, z1, z2⟩ := S1.here
    exact s_raiseF (ea_cons (ev_var rfl) (ea_cons (ev_fld (ev_here rfl S1 hq) z1 T.cl_Token T.n_Token_place (tkF_place _ _ _)) ea_nil)) ((kF hb).go e1)
theorem ok_Parser_comes (T : Txt K mg a) : Good P w K mg base 2 a.f_Parser_comes ["self", "kind", "value"] (sp_comes a) := by
  obtain ⟨fd, F⟩ := T.F_Parser_comes
  refine ⟨⟨fd, F.okX sc_Parser_comes (fun vs H Q E h => ?_) (fun cdv A outer s H vs Q E hr h => ⟨_, (pss_one (ps_ret (pe_and (pe_cmpR op_eq (pe_fld (pe_gm0 (ok_Parser_here T) (pv 0) T.cl_Parser T.me_Parser_here (hr.mono (by decide)) (E := fun _ => E0) px0) rfl) (pv 1) (nomark _)) (pe_one (pe_cmpR op_eq (pe_fld (pe_gm0 (ok_Parser_here T) (pv 0) T.cl_Parser T.me_Parser_here (hr.mono (by decide)) (E := fun _ => E0) px0) rfl) (pv 2) (nomark _)))))), ?_⟩), F.binds fun _ _ _ _ _ _ us hl => match us, hl with | [_, _, _], _ => rfl⟩, T.k_Parser_comes⟩
  · obtain ⟨g, l, t, t0, k0, v0, rfl, _⟩ := h
    rfl
  · obtain ⟨g, l, t, t0, k0, v0, rfl, h0, S, k⟩ := h
    obtain ⟨q, tk, r, rfl, hq, dz, k1, v1, z1, z2⟩ := S.here
    refine s_ret (ev_is (ev_andV (ev_op (ev_fld (ev_here rfl S hq) z1 T.cl_Token T.n_Token_kind (tkF_kind _ _ _)) (ev_var rfl) (rv_eq rfl)) fun hk => ev_op (ev_fld (ev_here rfl S hq) z1 T.cl_Token T.n_Token_value (tkF_value _ _ _)) (ev_var rfl) (rv_eq ?_)) ?_) k
    · exact kv_scal z2 h0 (V.str.inj (of_decide_eq_true hk))
    · rw [tok_eq z2 h0]
      rfl
/-- self.comes(kind, value) -/
theorem ev_comes {E : L2.St → XK} {ta tb : TE} {t0 : BTok} {k0 v0 : Str} (h0 : σ[0]? = some (some (.ref g.pa))) (S : PSt a H g l t) (hk : kvOf t0 = some (k0, v0)) (ha : Ev ta σ H (.str k0)) (hb : Ev tb σ H (.str v0)) :
    Ev (tGM a.c_Parser "comes" (sp_comes a) E (tVar 0) (tCons ta (tCons tb tNil))) σ H (.bl (VamvsBase.next t0 l)) := by
  obtain ⟨dx, l0, h1, h2⟩ := S.pa
  exact ev_gm (ev_var h0) h2 (parF_none _ _ (by decide +kernel) (by decide +kernel) (by decide +kernel)) (ea_cons ha (ea_cons hb ea_nil)) fun H1 e Q k E => ⟨g, l, t, t0, k0, v0, rfl, hk, S.ex e, k⟩
/-- self.fail_if(b, n), a statement -/
theorem s_fail {E : XK} {ta tb : TE} {b : Bool} {n : Nat} (h0 : σ[0]? = some (some (.ref g.pa))) (S : PSt a H g l t) (ha : Ev ta σ H (.bl b)) (hb : Ev tb σ H (.int (n : Nat))) (kF : b = true → FaultAt a.c_Fault H E ⟨n, VamvsBase.here l⟩) (k : b = false → ∀ H1, Ex H H1 → D.nx σ H1) :
    tDrop (tGM a.c_Parser "fail_if" (sp_fail_if a) (fun _ => E) (tVar 0) (tCons ta (tCons tb tNil))) D σ H := by
  obtain ⟨dx, l0, h1, h2⟩ := S.pa
  refine ⟨_, h0, g.pa, dx, _, rfl, h2, parF_none _ _ (by decide +kernel) (by decide +kernel) (by decide +kernel), ?_⟩
  exact ha H (Ex.refl _) _ fun H1 e1 => hb H1 e1 _ fun H2 e2 => ⟨g, l, t, b, n, rfl, S.ex (e1.trans e2), fun z => (kF z).go (e1.trans e2), fun z H3 e3 => k z H3 ((e1.trans e2).trans e3)⟩
theorem q_fail {E : XK} {ta tb : TE} {b : Bool} {n : Nat} (h0 : σ[0]? = some (some (.ref g.pa))) (S : PSt a H g l t) (ha : Ev ta σ H (.bl b)) (hb : Ev tb σ H (.int (n : Nat))) (kF : b = true → FaultAt a.c_Fault H E ⟨n, VamvsBase.here l⟩) (k : b = false → ∀ H1, Ex H H1 → tz D σ H1) :
    tSeq (tDrop (tGM a.c_Parser "fail_if" (sp_fail_if a) (fun _ => E) (tVar 0) (tCons ta (tCons tb tNil)))) tz D σ H := s_fail (D := { D with nx := tz D }) h0 S ha hb kF k
/-- self.at += 1 -/
theorem s_adv {tk : PTok} {r : Toks} (T : Txt K mg a) (h0 : σ[0]? = some (some (.ref g.pa))) (S : PSt a H g (tk :: r) t) (hn : tk.tok ≠ .last) (k : ∀ H1, PSt a H1 g r t → FrL g.muts H H1 → D.nx σ H1) : sFldAug K (tVar 0) (tC (.int 1)) L2.rAdd "at" D σ H := by
  obtain ⟨dx, l0, h1, h2⟩ := S.pa
  refine s_fldaug (ev_var h0) h2 T.cl_Parser T.n_Parser_at (by show (3 : Nat) ≤ 900; decide) (parF_at _ _) ev_c fun H1 e1 => ?_
  rw [parF_put]
  have e3 : g.ts = (l0 ++ [tk]) ++ r := by rw [h1, List.append_assoc]; rfl
  have l1 : l0.length + 1 = (l0 ++ [tk]).length := by rw [List.length_append, List.length_singleton]
  rw [l1]
  exact k _ ((S.ex e1).upPa (e1 _ _ h2) e3 (S.ok.tail hn)) ((FrL.ex e1).trans (FrL.up List.mem_cons_self))
theorem q_adv {tk : PTok} {r : Toks} (T : Txt K mg a) (h0 : σ[0]? = some (some (.ref g.pa))) (S : PSt a H g (tk :: r) t) (hn : tk.tok ≠ .last) (k : ∀ H1, PSt a H1 g r t → FrL g.muts H H1 → tz D σ H1) : tSeq (sFldAug K (tVar 0) (tC (.int 1)) L2.rAdd "at") tz D σ H := s_adv (D := { D with nx := tz D }) T h0 S hn k
theorem ok_Parser_take (T : Txt K mg a) : Good P w K mg base 4 a.f_Parser_take ["self", "kind", "value"] (sp_take a) := by
  obtain ⟨fd, F⟩ := T.F_Parser_take
  refine ⟨⟨fd, F.okX sc_Parser_take (fun vs H Q E h => ?_) (fun cdv A outer s H vs Q E hr h => ⟨_, (pss_cons (ps_expr (pe_gm (ok_Parser_fail_if T) (pv 0) T.cl_Parser T.me_Parser_fail_if (hr.mono (by decide)) (E := fun _ => E) (pxt (takes_of rfl rfl rfl rfl)) (pa_cons (pe_not (pe_gm (ok_Parser_comes T) (pv 0) T.cl_Parser T.me_Parser_comes (hr.mono (by decide)) (E := fun _ => E0) px0 (pa_cons (pv 1) (pa_cons (pv 2) pa_nil)))) (pa_cons (pe_gi rfl T.m_NOT_ALLOWED) pa_nil))))
    (pss_one (ps_fldaug (pv 0) pe_int in_add))), ?_⟩), F.binds fun _ _ _ _ _ _ us hl => match us, hl with | [_, _, _], _ => rfl⟩, T.k_Parser_take⟩
  · obtain ⟨g, l, t, t0, k0, v0, rfl, _⟩ := h
    rfl
  · obtain ⟨g, l, t, t0, k0, v0, rfl, h0, S, kF, kR⟩ := h
    refine q_fail rfl S (ev_notV (ev_comes rfl S h0 (ev_var rfl) (ev_var rfl))) ev_c (fun hb => kF (by simpa using hb)) fun hb H1 e1 => ?_
    have hb' : VamvsBase.next t0 l = true := by simpa using hb
    have S1 := S.ex e1
    obtain ⟨q, tk, r, rfl, hq, _⟩ := S1.here
    exact s_adv T rfl S1 (next_ne h0 hb') fun H2 S2 f2 => kR hb' H2 S2 ((FrL.ex e1).trans f2)
theorem ok_Parser_passes (T : Txt K mg a) : Good P w K mg base 3 a.f_Parser_passes ["self", "kind", "value"] (sp_passes a) := by
  obtain ⟨fd, F⟩ := T.F_Parser_passes
  refine ⟨⟨fd, F.okX sc_Parser_passes (fun vs H Q E h => ?_) (fun cdv A outer s H vs Q E hr h => ⟨_, (pss_cons (ps_set (i := 3) sc_Parser_passes.nd rfl (Or.inl rfl) (pe_gm (ok_Parser_comes T) (pv 0) T.cl_Parser T.me_Parser_comes (hr.mono (by decide)) (E := fun _ => E0) px0 (pa_cons (pv 1) (pa_cons (pv 2) pa_nil))))
    (pss_cons (ps_if (pt_val (pv 3))
      (pss_one (ps_fldaug (pv 0) pe_int in_add))
      pss_nil)
    (pss_one (ps_ret (pv 3))))), ?_⟩), F.binds fun _ _ _ _ _ _ us hl => match us, hl with | [_, _, _], _ => rfl⟩, T.k_Parser_passes⟩
  · obtain ⟨g, l, t, t0, k0, v0, rfl, _⟩ := h
    rfl
  · obtain ⟨g, l, t, t0, k0, v0, rfl, h0, S, kR⟩ := h
    refine q_asg (ev_comes rfl S h0 (ev_var rfl) (ev_var rfl)) fun H1 e1 => ?_
    refine q_when (et_B (ev_var rfl)) (fun hb H2 e2 => ?_) (fun hb H2 e2 => ?_)
    · have S2 := S.ex (e1.trans e2)
      obtain ⟨q, tk, r, rfl, hq, _⟩ := S2.here
      refine s_adv T rfl S2 (next_ne h0 hb) fun H3 S3 f3 => s_ret (ev_var rfl) fun H4 e4 => kR H4 ?_ (((FrL.ex (e1.trans e2)).trans f3).trans (FrL.ex e4))
      rw [if_pos hb]
      exact S3.ex e4
    · refine s_ret (ev_var rfl) fun H3 e3 => kR H3 ?_ (FrL.ex ((e1.trans e2).trans e3))
      rw [if_neg (by rw [hb]; decide)]
      exact S.ex ((e1.trans e2).trans e3)
theorem ok_Parser_take_number (T : Txt K mg a) : Good P w K mg base 4 a.f_Parser_take_number ["self", "low", "high"] (sp_take_number a) := by
  obtain ⟨fd, F⟩ := T.F_Parser_take_number
  refine ⟨⟨fd, F.okX sc_Parser_take_number (fun vs H Q E h => ?_) (fun cdv A outer s H vs Q E hr h => ⟨_, (pss_cons (ps_set (i := 3) sc_Parser_take_number.nd rfl (Or.inl rfl) (pe_gm0 (ok_Parser_here T) (pv 0) T.cl_Parser T.me_Parser_here (hr.mono (by decide)) (E := fun _ => E0) px0))
    (pss_cons (ps_expr (pe_gm (ok_Parser_fail_if T) (pv 0) T.cl_Parser T.me_Parser_fail_if (hr.mono (by decide)) (E := fun _ => E) (pxt (takes_of rfl rfl rfl rfl)) (pa_cons (pe_cmpR op_ne (pe_fld (pv 3) rfl) (pe_gs rfl T.m_NUMBER) (nomark _)) (pa_cons (pe_gi rfl T.m_NOT_ALLOWED) pa_nil))))
    (pss_cons (ps_expr (pe_gm (ok_Parser_fail_if T) (pv 0) T.cl_Parser T.me_Parser_fail_if (hr.mono (by decide)) (E := fun _ => E) (pxt (takes_of rfl rfl rfl rfl)) (pa_cons (pe_not (pe_chain op_le op_le (pv 1) (pe_fld (pv 3) rfl) (pv 2))) (pa_cons (pe_gi rfl T.m_OUT) pa_nil))))
    (pss_cons (ps_fldaug (pv 0) pe_int in_add)
    (pss_one (ps_ret (pe_fld (pv 3) rfl))))))), ?_⟩), F.binds fun _ _ _ _ _ _ us hl => match us, hl with | [_, _, _], _ => rfl⟩, T.k_Parser_take_number⟩
  · obtain ⟨g, l, t, low, high, rfl, _⟩ := h
    rfl
  · obtain ⟨g, l, t, low, high, rfl, S, kF, kR⟩ := h
    obtain ⟨q, tk, r, rfl, hq, dz, k1, v1, z1, z2⟩ := S.here
    obtain ⟨pl, tok⟩ := tk
    refine q_asg (ev_here rfl S hq) fun H1 e1 => ?_
    have S1 := S.ex e1
    refine q_fail (b := !decide (V.str k1 = V.str "number")) rfl S1 (ev_op (ev_fld (ev_var rfl) (e1 _ _ z1) T.cl_Token T.n_Token_kind (tkF_kind _ _ _)) ev_c (rv_ne rfl)) ev_c (fun hb => ?_) fun hb H2 e2 => ?_
    · refine (kF _ ?_).go e1
      cases z2 with
      | num n => cases hb
      | _ => rfl
    · have hk : k1 = "number" := by
        have : decide (V.str k1 = V.str "number") = true := by simpa using hb
        exact V.str.inj (of_decide_eq_true this)
      have hno : ∀ {s : Str}, s ≠ "number" → k1 = s → False := fun n e => n (e.symm.trans hk)
      cases z2 with
      | num n =>
        have S2 := S1.ex e2
        refine q_fail (b := !(decide ((low : Int) ≤ n) && decide ((n : Int) ≤ high))) rfl S2 (ev_notV (ev_chain (ev_var rfl) (ev_fld (ev_var rfl) (e2 _ _ (e1 _ _ z1)) T.cl_Token T.n_Token_value (tkF_value _ _ _)) rv_I0 (fun _ => ev_var rfl) fun _ => rv_I0)) ev_c (fun hb => ?_) fun hb H3 e3 => ?_
        · refine (kF _ ?_).go (e1.trans e2)
          show (if _ then _ else _) = _
          rw [if_pos]
          · rfl
          · simp only [Bool.not_eq_true', Bool.and_eq_false_iff, decide_eq_false_iff_not] at hb
            omega
        · have S3 := S2.ex e3
          refine q_adv T rfl S3 (by intro z; cases z) fun H4 S4 f4 => s_ret (v := .int (n : Nat)) ?_ fun H5 e5 => kR n r ?_ H5 (S4.ex e5) (((FrL.ex ((e1.trans e2).trans e3)).trans f4).trans (FrL.ex e5))
          · refine ev_fld (ev_var rfl) (f4 _ _ (e3 _ _ (e2 _ _ (e1 _ _ z1))) ?_) T.cl_Token T.n_Token_value (tkF_value _ _ _)
            obtain ⟨dx, l0, _, h2⟩ := S3.pa
            obtain ⟨ns, rs, qs, TT⟩ := S3.tab
            have z3 := e3 _ _ (e2 _ _ (e1 _ _ z1))
            have m1 : q ≠ g.pa := ne_of z3 h2 (by
              intro w
              injection w with _ _ w
              injection w with w _
              injection w with w _
              exact absurd w (by decide +kernel))
            have m2 : q ≠ g.c := ne_of z3 TT.c (by intro w; cases w)
            have m3 : q ≠ g.r := ne_of z3 TT.r (by intro w; cases w)
            have m4 : q ≠ g.q := ne_of z3 TT.q (by intro w; cases w)
            simp [PG_.muts, m1, m2, m3, m4]
          · show (if _ then _ else _) = _
            rw [if_neg]
            simp only [Bool.not_eq_false', Bool.and_eq_true, decide_eq_true_eq] at hb
            omega
      | name _ _ => exact (hno (by decide +kernel) rfl).elim
      | word _ => exact (hno (by decide +kernel) rfl).elim
      | sign _ => exact (hno (by decide +kernel) rfl).elim
      | last => exact (hno (by decide +kernel) rfl).elim
end
end BA

namespace BA
open PySem PySem.Spec PyProof.Rows L2 Evl
open VamvsBase (Bytes Fault PTok Toks RESERVED)
open Vamvsa (takeColumns takeNat takeValues takeInt takeAsked takeTimes takeAsk takeLines)

/-! ### a list of the table grows -/
theorem kpL {H : Hp} {z b : Addr} {xs ys : List V} {o : HO} (hb : H b = some o) (n : b ≠ z) : upd H z (.lst ys) b = some o := by rw [upd_ne n]; exact hb
theorem kpT {H : Hp} {z b : Addr} {xs ys ts : List V} (hz : H z = some (.lst xs)) (hb : H b = some (.tup ts)) : upd H z (.lst ys) b = some (.tup ts) := by rw [upd_ne (ne_of hb hz (by intro w; cases w))]; exact hb
theorem kpI {H : Hp} {z b C dx : Addr} {xs ys : List V} {fs : List (Str × V)} (hz : H z = some (.lst xs)) (hb : H b = some (.ins C dx fs)) : upd H z (.lst ys) b = some (.ins C dx fs) := by rw [upd_ne (ne_of hb hz (by intro w; cases w))]; exact hb
section
variable {a : Ad} {H : Hp} {g : PG_} {l : Toks} {t : Vamvsa.Table} {z : Addr} {xs : List V}
theorem NamL.up {ns : List Addr} {cs : List Bytes} {ys : List V} (hz : H z = some (.lst xs)) (h : NamL H ns cs) : NamL (upd H z (.lst ys)) ns cs := prs_imp (fun _ _ q => kpT hz q) h
theorem RowL.up {rs : List Addr} {rows : List Vamvsa.Row} {ys : List V} (hz : H z = some (.lst xs)) (h : RowL H rs rows) : RowL (upd H z (.lst ys)) rs rows := prs_imp (fun _ _ ⟨v, q1, q2⟩ => ⟨v, kpT hz q1, kpT hz q2⟩) h
theorem AskL.up {qs : List Addr} {asks : List Vamvsa.Ask} {ys : List V} (hz : H z = some (.lst xs)) (h : AskL H qs asks) : AskL (upd H z (.lst ys)) qs asks := prs_imp (fun _ _ q => kpT hz q) h
theorem PSt.upC {ns : List Addr} {b : Bytes} {q : Addr} (x : PSt a H g l t) (hc : H g.c = some (.lst (refs ns))) (hn : NamL H ns t.cols) (hq : H q = some (.tup (bv b))) : PSt a (upd H g.c (.lst (refs ns ++ [.ref q]))) g l { t with cols := t.cols ++ [b] } := by
  obtain ⟨⟨dx, l0, h1, h2⟩, h3, h4, h5, ⟨ns', rs, qs, ⟨dy, k1⟩, k2, k3, k4, k5, k6, k7⟩, h7⟩ := x
  refine ⟨⟨dx, l0, h1, kpI hc h2⟩, kpL (xs := []) h3 h7.2.2.2.1, TokL.up hc h4, h5, ⟨ns ++ [q], rs, qs, ⟨dy, kpI hc k1⟩, by rw [refs_snoc]; exact upd_same, kpL (xs := []) k3 h7.1.symm, kpL (xs := []) k4 h7.2.1.symm, prs_snoc (hn.up hc) (kpT hc hq), k6.up hc, k7.up hc⟩, h7⟩
theorem PSt.upR {rs : List Addr} {row : Vamvsa.Row} {q v : Addr} (x : PSt a H g l t) (hc : H g.r = some (.lst (refs rs))) (hn : RowL H rs t.rows) (hq : H q = some (.tup [.ref v, .int row.m])) (hv : H v = some (.tup (vI row.vs))) : PSt a (upd H g.r (.lst (refs rs ++ [.ref q]))) g l { t with rows := t.rows ++ [row] } := by
  obtain ⟨⟨dx, l0, h1, h2⟩, h3, h4, h5, ⟨ns', rs', qs, ⟨dy, k1⟩, k2, k3, k4, k5, k6, k7⟩, h7⟩ := x
  refine ⟨⟨dx, l0, h1, kpI hc h2⟩, kpL (xs := []) h3 h7.2.2.2.2.1, TokL.up hc h4, h5, ⟨ns', rs ++ [q], qs, ⟨dy, kpI hc k1⟩, kpL (xs := []) k2 h7.1, by rw [refs_snoc]; exact upd_same, kpL (xs := []) k4 h7.2.2.1.symm, k5.up hc, prs_snoc (hn.up hc) ⟨v, kpT hc hq, kpT hc hv⟩, k7.up hc⟩, h7⟩
theorem PSt.upQ {qs : List Addr} {ask : Vamvsa.Ask} {q : Addr} (x : PSt a H g l t) (hc : H g.q = some (.lst (refs qs))) (hn : AskL H qs t.asks) (hq : H q = some (.tup [.int (ask.g : Nat), .int (ask.k : Nat)])) : PSt a (upd H g.q (.lst (refs qs ++ [.ref q]))) g l { t with asks := t.asks ++ [ask] } := by
  obtain ⟨⟨dx, l0, h1, h2⟩, h3, h4, h5, ⟨ns', rs', qs', ⟨dy, k1⟩, k2, k3, k4, k5, k6, k7⟩, h7⟩ := x
  refine ⟨⟨dx, l0, h1, kpI hc h2⟩, kpL (xs := []) h3 h7.2.2.2.2.2, TokL.up hc h4, h5, ⟨ns', rs', qs ++ [q], ⟨dy, kpI hc k1⟩, kpL (xs := []) k2 h7.2.1, kpL (xs := []) k3 h7.2.2.1, by rw [refs_snoc]; exact upd_same, k5.up hc, k6.up hc, prs_snoc (hn.up hc) (kpT hc hq)⟩, h7⟩
end
/-! ### names among names -/
theorem any_names (b : Bytes) : ∀ cs : List Bytes, (cs.map fun c => PyData.tuple ((bi c).map PyData.int)).any (fun z => PyData.eqv z (.tuple ((bi b).map PyData.int))) = cs.contains b
  | [] => rfl
  | c :: cs => by
    have ih := any_names b cs
    rw [List.map_cons, List.any_cons, ih, PyData.eqv, eqv_ints, List.contains_cons]
    congr 1
    rw [Bool.eq_iff_iff, decide_eq_true_iff, beq_iff_eq]
    exact ⟨fun e => (bi_inj.mp e).symm, fun e => by rw [e]⟩
theorem shaped_names (cs : List Bytes) : SeqAt.shaped (.list (cs.map fun c => PyData.tuple ((bi c).map PyData.int))) = true := by
  have h1 : ∀ cs : List Bytes, PyData.canLayAll0 (cs.map fun c => PyData.tuple ((bi c).map PyData.int)) = true := by
    intro cs
    induction cs with
    | nil => simp [PyData.canLayAll0]
    | cons c r ih => simp only [List.map_cons, PyData.canLayAll0, PyData.canLay0, canLay_ints, ih]; rfl
  have h2 : ∀ cs : List Bytes, PyData.depthAll (cs.map fun c => PyData.tuple ((bi c).map PyData.int)) ≤ 1 := by
    intro cs
    induction cs with
    | nil => simp [PyData.depthAll]
    | cons c r ih =>
      simp only [List.map_cons, PyData.depthAll, PyData.depth, depth_ints]
      omega
  have h3 := h2 cs
  unfold SeqAt.shaped
  rw [Bool.and_eq_true, decide_eq_true_iff]
  refine ⟨?_, ?_⟩
  · rw [PyData.canLay0]
    exact h1 cs
  · rw [PyData.depth]
    omega
theorem dpAll_names {K : PySem.W.Frag} {H : Hp} : ∀ {ns : List Addr} {cs : List Bytes}, NamL H ns cs → DpAll K H (refs ns) (cs.map fun c => PyData.tuple ((bi c).map PyData.int))
  | _, _, .nil => .nil
  | _, _, @Paired.cons _ _ _ n b ns cs h r => by
    refine .cons (.tup ?_ (dpAll_ints (bi b))) (dpAll_names r)
    rw [← bv_bi]
    exact SqT.of h
theorem NamL.ex {H H' : Hp} {ns : List Addr} {cs : List Bytes} (h : NamL H ns cs) (e : Ex H H') : NamL H' ns cs := prs_imp (fun _ _ q => e _ _ q) h
theorem rv_inNames {K : PySem.W.Frag} {H : Hp} {c q : Addr} {ns : List Addr} {cs : List Bytes} {b : Bytes} (hc : H c = some (.lst (refs ns))) (hn : NamL H ns cs) (hq : H q = some (.tup (bv b))) : RV (rInD K) (.ref q) (.ref c) H (.bl (cs.contains b)) := fun H1 e Q k =>
  ⟨_, _, .tup (by rw [← bv_bi]; exact SqT.of (e _ _ hq)) (dpAll_ints (bi b)), .lst (SqL.of (e _ _ hc)) (dpAll_names (hn.ex e)), shaped_tupI _, shaped_names cs, by
    rw [any_names]
    exact k H1 (Ex.refl _)⟩
theorem rv_niNames {K : PySem.W.Frag} {H : Hp} {c q : Addr} {ns : List Addr} {cs : List Bytes} {b : Bytes} (hc : H c = some (.lst (refs ns))) (hn : NamL H ns cs) (hq : H q = some (.tup (bv b))) : RV (rNotInD K) (.ref q) (.ref c) H (.bl (!cs.contains b)) := fun H1 e Q k =>
  ⟨_, _, .tup (by rw [← bv_bi]; exact SqT.of (e _ _ hq)) (dpAll_ints (bi b)), .lst (SqL.of (e _ _ hc)) (dpAll_names (hn.ex e)), shaped_tupI _, shaped_names cs, by
    rw [any_names]
    exact k H1 (Ex.refl _)⟩
theorem tabF_c (g : TG_) : (tabF g).lookup ("columns" : Str) = some (.ref g.c) := lk_here
theorem tabF_r (g : TG_) : (tabF g).lookup ("rows" : Str) = some (.ref g.r) := (lk_past (by decide +kernel)).trans lk_here
theorem tabF_q (g : TG_) : (tabF g).lookup ("questions" : Str) = some (.ref g.q) := (lk_past (by decide +kernel)).trans ((lk_past (by decide +kernel)).trans lk_here)
/-- what is not a name is no name -/
theorem notName {H : Hp} {p : Nat} {tk : BTok} {r : Toks} {k : Str} {v : V} (h : TkV H tk k v) (n : k ≠ "name") : VamvsBase.takeName (⟨p, tk⟩ :: r) = .error ⟨3, p⟩ := by
  cases h with
  | name h1 h2 => exact absurd rfl n
  | word hb => exact if_pos hb
  | num _ => rfl
  | sign _ => rfl
  | last => rfl
theorem isName {H : Hp} {tk : BTok} {k : Str} {v : V} (h : TkV H tk k v) (e : k = "name") : ∃ b q, tk = .name b ∧ v = .ref q ∧ RESERVED.contains b = false ∧ H q = some (.tup (bv b)) := by
  cases h with
  | name h1 h2 => exact ⟨_, _, rfl, rfl, h1, h2⟩
  | word hb => exact absurd e (by decide +kernel)
  | num _ => exact absurd e (by decide +kernel)
  | sign _ => exact absurd e (by decide +kernel)
  | last => exact absurd e (by decide +kernel)

def sp_take_column (a : Ad) : Sp := fun vs H Q E => ∃ (g : PG_) (l : Toks) (t : Vamvsa.Table), vs = [.ref g.pa] ∧ PSt a H g l t ∧ t.cols.length ≤ 4 ∧
  (∀ f, takeCol t.cols l = .error f → FaultAt a.c_Fault H E f) ∧ (∀ b l', takeCol t.cols l = .ok (b, l') → ∀ H', PSt a H' g l' { t with cols := t.cols ++ [b] } → FrL g.muts H H' → Q .non H')
def sp_take_columns (a : Ad) : Sp := fun vs H Q E => ∃ (g : PG_) (l : Toks), vs = [.ref g.pa] ∧ PSt a H g l emptyT ∧
  (∀ f, ((VamvsBase.takeWord "columns" l).bind fun r => takeColumns (r.length + 1) [] r) = .error f → FaultM a.c_Fault g H E f) ∧
  (∀ cs l', ((VamvsBase.takeWord "columns" l).bind fun r => takeColumns (r.length + 1) [] r) = .ok (cs, l') → ∀ H', PSt a H' g l' ⟨cs, [], []⟩ → FrL g.muts H H' → Q .non H')
section
variable {P : Program} {w : World} {K : PySem.W.Frag} {mg : Str → Option Value} {base : Heap} {a : Ad} {H H' : Hp} {σ : L2.St} {g : PG_} {l : Toks} {t : Vamvsa.Table} {D : Ends} {tz : TS}
theorem mem_c : g.c ∈ g.muts := by simp [PG_.muts]
theorem mem_r : g.r ∈ g.muts := by simp [PG_.muts]
theorem mem_q : g.q ∈ g.muts := by simp [PG_.muts]
theorem ok_Parser_take_column (T : Txt K mg a) : Good P w K mg base 4 a.f_Parser_take_column ["self"] (sp_take_column a) := by
  obtain ⟨fd, F⟩ := T.F_Parser_take_column
  refine ⟨⟨fd, F.okX sc_Parser_take_column (fun vs H Q E h => ?_) (fun cdv A outer s H vs Q E hr h => ⟨_, (pss_cons (ps_par (i := 1) (j := 2) (by rfl) sc_Parser_take_column.nd rfl rfl (by decide) rfl rfl (pa_cons (pe_gm0 (ok_Parser_here T) (pv 0) T.cl_Parser T.me_Parser_here (hr.mono (by decide)) (E := fun _ => E0) px0) (pa_cons (pe_fld (pe_fld (pv 0) rfl) rfl) pa_nil)) (by rfl))
    (pss_cons (ps_expr (pe_gm (ok_Parser_fail_if T) (pv 0) T.cl_Parser T.me_Parser_fail_if (hr.mono (by decide)) (E := fun _ => E) (pxt (takes_of rfl rfl rfl rfl)) (pa_cons (pe_cmpR op_ne (pe_fld (pv 1) rfl) (pe_gs rfl T.m_NAME) (nomark _)) (pa_cons (pe_gi rfl T.m_NOT_ALLOWED) pa_nil))))
    (pss_cons (ps_expr (pe_gm (ok_Parser_fail_if T) (pv 0) T.cl_Parser T.me_Parser_fail_if (hr.mono (by decide)) (E := fun _ => E) (pxt (takes_of rfl rfl rfl rfl)) (pa_cons (pe_cmpR op_eq (pe_callB call_len_seq (by rfl) T.b_len (by decide +kernel) (pa_cons (pv 2) pa_nil)) (pe_gi rfl T.m_MOST_COLUMNS) (nomark _)) (pa_cons (pe_gi rfl T.m_TOO_MANY) pa_nil))))
    (pss_cons (ps_expr (pe_gm (ok_Parser_fail_if T) (pv 0) T.cl_Parser T.me_Parser_fail_if (hr.mono (by decide)) (E := fun _ => E) (pxt (takes_of rfl rfl rfl rfl)) (pa_cons (pe_cmpR (op_inD (u65 hr)) (pe_fld (pv 1) rfl) (pv 2) (by rfl)) (pa_cons (pe_gi rfl T.m_NAMED) pa_nil))))
    (pss_cons (ps_expr (pe_bm PySem.F.plainAttrs_list PySem.F.slot_list_append PySem.F.type_list_append mt_append (pv 2) (pa_cons (pe_fld (pv 1) rfl) pa_nil)))
    (pss_one (ps_fldaug (pv 0) pe_int in_add))))))), ?_⟩), F.binds fun _ _ _ _ _ _ us hl => match us, hl with | [_], _ => rfl⟩, T.k_Parser_take_column⟩
  · obtain ⟨g, l, t, rfl, _⟩ := h
    rfl
  · obtain ⟨g, l, t, rfl, S, h4, kF, kR⟩ := h
    obtain ⟨q, tk, r, rfl, hq, dz, k1, v1, z1, z2⟩ := S.here
    obtain ⟨pl, tok⟩ := tk
    obtain ⟨dx, l0, _, hp⟩ := S.pa
    obtain ⟨ns, rs, qs, TT⟩ := S.tab
    obtain ⟨dy, htb⟩ := TT.tb
    refine q_parVV (ev_here rfl S hq) (ev_fld (ev_fld (ev_var rfl) hp T.cl_Parser T.n_Parser_table (parF_table _ _)) htb T.cl_Table T.n_Table_columns (tabF_c _)) fun H1 e1 => ?_
    have S1 := S.ex e1
    refine q_fail (b := !decide (V.str k1 = V.str "name")) rfl S1 (ev_op (ev_fld (ev_var rfl) (e1 _ _ z1) T.cl_Token T.n_Token_kind (tkF_kind _ _ _)) ev_c (rv_ne rfl)) ev_c (fun hb => ?_) fun hb H2 e2 => ?_
    · refine (kF _ ?_).go e1
      have hk : k1 ≠ "name" := by
        intro e
        rw [e, decide_eq_true rfl] at hb
        cases hb
      unfold takeCol
      rw [notName z2 hk]
      rfl
    have hk : k1 = "name" := by
      have : decide (V.str k1 = V.str "name") = true := by simpa using hb
      exact V.str.inj (of_decide_eq_true this)
    obtain ⟨b, nq, rfl, rfl, hres, hnq⟩ := isName z2 hk
    have htn : VamvsBase.takeName (⟨pl, .name b⟩ :: r) = .ok (⟨pl, b⟩, r) := if_neg (by rw [hres]; decide)
    have S2 := S1.ex e2
    have e12 := e1.trans e2
    have hcl := TT.c
    have hnl : ns.length = t.cols.length := prs_len TT.ns
    refine q_fail (b := decide (t.cols.length = 4)) rfl S2 (ev_is (ev_op (ev_len (ev_var rfl) (sq_of (e12 _ _ hcl))) ev_c (rv_eq rfl)) ?_) ev_c (fun hb => ?_) fun hb H3 e3 => ?_
    · rw [refs_len, hnl]
      congr 1
      rw [Bool.eq_iff_iff, decide_eq_true_iff, decide_eq_true_iff, V.int.injEq]
      omega
    · refine (kF _ ?_).go e12
      have : t.cols.length = 4 := of_decide_eq_true hb
      unfold takeCol
      rw [htn]
      exact if_pos (by show (4 : Nat) ≤ _; omega)
    have h4' : ¬ Vamvsa.COLUMNS ≤ t.cols.length := by
      have : ¬ t.cols.length = 4 := of_decide_eq_false hb
      show ¬ (4 : Nat) ≤ _
      omega
    have S3 := S2.ex e3
    have e13 := e12.trans e3
    refine q_fail rfl S3 (ev_op (ev_fld (ev_var rfl) (e13 _ _ z1) T.cl_Token T.n_Token_value (tkF_value _ _ _)) (ev_var rfl) (rv_inNames (e13 _ _ hcl) (TT.ns.ex e13) (e13 _ _ hnq))) ev_c (fun hb => ?_) fun hb H4 e4 => ?_
    · refine (kF _ ?_).go e13
      unfold takeCol
      rw [htn]
      show (if _ then _ else _) = _
      rw [if_neg h4', if_pos hb]
      rfl
    have S4 := S3.ex e4
    have e14 := e13.trans e4
    refine q_app (K := K) (e14 _ _ hcl) (ev_var rfl) (ev_fld (ev_var rfl) (e14 _ _ z1) T.cl_Token T.n_Token_value (tkF_value _ _ _)) (by rw [refs_len, hnl]; omega) fun H5 e5 => ?_
    have e15 := e14.trans e5
    have S6 := (S4.ex e5).upC (e15 _ _ hcl) (TT.ns.ex e15) (e15 _ _ hnq)
    refine s_adv T rfl S6 (by intro z; cases z) fun H7 S7 f7 => kR b r ?_ H7 S7 (((FrL.ex e15).trans (FrL.up mem_c)).trans f7)
    unfold takeCol
    rw [htn]
    show (if _ then _ else _) = _
    rw [if_neg h4', if_neg (by rw [hb]; decide)]
/-- calls of the parser's methods as statements -/
theorem gm_pa (S : PSt a H g l t) (h0 : σ[0]? = some (some (.ref g.pa))) {m : Str} {sp : Sp} {E : L2.St → XK} {ta : TA} {vs : List V} {Q : VK} (h1 : (m == ("tokens" : Str)) = false) (h2 : (m == ("at" : Str)) = false) (h3 : (m == ("table" : Str)) = false) (ha : EvA ta σ H vs)
    (k : ∀ H1, Ex H H1 → sp (.ref g.pa :: vs) H1 Q (E σ)) : tGM a.c_Parser m sp E (tVar 0) ta σ H Q := by
  obtain ⟨dx, l0, _, hp⟩ := S.pa
  exact ⟨_, h0, g.pa, dx, _, rfl, hp, parF_none _ _ h1 h2 h3, ha H (Ex.refl _) _ fun H1 e1 => k H1 e1⟩
theorem m_take {E : XK} {ta tb : TE} {t0 : BTok} {k0 v0 : Str} {Q : VK} (h0 : σ[0]? = some (some (.ref g.pa))) (S : PSt a H g l t) (hk : kvOf t0 = some (k0, v0)) (ha : Ev ta σ H (.str k0)) (hb : Ev tb σ H (.str v0)) (kF : VamvsBase.next t0 l = false → FaultAt a.c_Fault H E ⟨3, VamvsBase.here l⟩)
    (k : VamvsBase.next t0 l = true → ∀ H1, PSt a H1 g (l.drop 1) t → FrL g.muts H H1 → Q .non H1) : tGM a.c_Parser "take" (sp_take a) (fun _ => E) (tVar 0) (tCons ta (tCons tb tNil)) σ H Q :=
  gm_pa S h0 (by decide +kernel) (by decide +kernel) (by decide +kernel) (ea_cons ha (ea_cons hb ea_nil)) fun H1 e1 => ⟨g, l, t, t0, k0, v0, rfl, hk, S.ex e1, fun z => (kF z).go e1, fun z H2 S2 f2 => k z H2 S2 ((FrL.ex e1).trans f2)⟩
theorem q_take {E : XK} {ta tb : TE} {t0 : BTok} {k0 v0 : Str} (h0 : σ[0]? = some (some (.ref g.pa))) (S : PSt a H g l t) (hk : kvOf t0 = some (k0, v0)) (ha : Ev ta σ H (.str k0)) (hb : Ev tb σ H (.str v0)) (kF : VamvsBase.next t0 l = false → FaultAt a.c_Fault H E ⟨3, VamvsBase.here l⟩)
    (k : VamvsBase.next t0 l = true → ∀ H1, PSt a H1 g (l.drop 1) t → FrL g.muts H H1 → tz D σ H1) : tSeq (tDrop (tGM a.c_Parser "take" (sp_take a) (fun _ => E) (tVar 0) (tCons ta (tCons tb tNil)))) tz D σ H := m_take h0 S hk ha hb kF k
theorem m_passes {ta tb : TE} {t0 : BTok} {k0 v0 : Str} {Q : VK} {E : L2.St → XK} (h0 : σ[0]? = some (some (.ref g.pa))) (S : PSt a H g l t) (hk : kvOf t0 = some (k0, v0)) (ha : Ev ta σ H (.str k0)) (hb : Ev tb σ H (.str v0))
    (k : ∀ H1, PSt a H1 g (if VamvsBase.next t0 l = true then l.drop 1 else l) t → FrL g.muts H H1 → Q (.bl (VamvsBase.next t0 l)) H1) : tGM a.c_Parser "passes" (sp_passes a) E (tVar 0) (tCons ta (tCons tb tNil)) σ H Q :=
  gm_pa S h0 (by decide +kernel) (by decide +kernel) (by decide +kernel) (ea_cons ha (ea_cons hb ea_nil)) fun H1 e1 => ⟨g, l, t, t0, k0, v0, rfl, hk, S.ex e1, fun H2 S2 f2 => k H2 S2 ((FrL.ex e1).trans f2)⟩
theorem m_column {E : XK} {Q : VK} (h0 : σ[0]? = some (some (.ref g.pa))) (S : PSt a H g l t) (h4 : t.cols.length ≤ 4) (kF : ∀ f, takeCol t.cols l = .error f → FaultAt a.c_Fault H E f)
    (k : ∀ b l', takeCol t.cols l = .ok (b, l') → ∀ H1, PSt a H1 g l' { t with cols := t.cols ++ [b] } → FrL g.muts H H1 → Q .non H1) : tGM a.c_Parser "take_column" (sp_take_column a) (fun _ => E) (tVar 0) tNil σ H Q :=
  gm_pa S h0 (by decide +kernel) (by decide +kernel) (by decide +kernel) ea_nil fun H1 e1 => ⟨g, l, t, rfl, S.ex e1, h4, fun f z => (kF f z).go e1, fun b l' z H2 S2 f2 => k b l' z H2 S2 ((FrL.ex e1).trans f2)⟩
theorem kv_columns : kvOf (.name (VamvsBase.word "columns")) = some (("word" : Str), ("columns" : Str)) := by decide +kernel
theorem kv_row : kvOf (.name (VamvsBase.word "row")) = some (("word" : Str), ("row" : Str)) := by decide +kernel
theorem kv_ask : kvOf (.name (VamvsBase.word "ask")) = some (("word" : Str), ("ask" : Str)) := by decide +kernel
theorem kv_times : kvOf (.name (VamvsBase.word "times")) = some (("word" : Str), ("times" : Str)) := by decide +kernel
theorem kv_comma : kvOf (.sign 44) = some (("sign" : Str), ("," : Str)) := by decide +kernel
theorem kv_colon : kvOf (.sign 58) = some (("sign" : Str), (":" : Str)) := by decide +kernel
theorem kv_semi : kvOf (.sign 59) = some (("sign" : Str), (";" : Str)) := by decide +kernel
theorem kv_minus : kvOf (.sign 45) = some (("sign" : Str), ("-" : Str)) := by decide +kernel
theorem taken_no {t0 : BTok} (h : VamvsBase.next t0 l = false) : VamvsBase.taken t0 l = .error ⟨3, VamvsBase.here l⟩ := if_neg (by rw [h]; decide)
theorem taken_yes {t0 : BTok} (h : VamvsBase.next t0 l = true) : VamvsBase.taken t0 l = .ok (l.drop 1) := if_pos h
theorem FaultAt.toM {CF : Addr} {E : XK} {f : Fault} {H1 : Hp} (h : FaultM CF g H E f) (e : FrL g.muts H H1) : FaultAt CF H1 E f := (h.go e).at
theorem ok_Parser_take_columns (T : Txt K mg a) : Good P w K mg base 5 a.f_Parser_take_columns ["self"] (sp_take_columns a) := by
  obtain ⟨fd, F⟩ := T.F_Parser_take_columns
  refine ⟨⟨fd, F.okX sc_Parser_take_columns (fun vs H Q E h => ?_) (fun cdv A outer s H vs Q E hr h => ⟨_, (pss_cons (ps_expr (pe_gm (ok_Parser_take T) (pv 0) T.cl_Parser T.me_Parser_take (hr.mono (by decide)) (E := fun _ => E) (pxt (takes_of rfl rfl rfl rfl)) (pa_cons (pe_gs rfl T.m_WORD) (pa_cons pe_str pa_nil))))
    (pss_cons (ps_expr (pe_gm0 (ok_Parser_take_column T) (pv 0) T.cl_Parser T.me_Parser_take_column (hr.mono (by decide)) (E := fun _ => E) (pxt (takes_of rfl rfl rfl rfl))))
    (pss_cons (ps_while (passes_of rfl) (pt_val (pe_gm (ok_Parser_passes T) (pv 0) T.cl_Parser T.me_Parser_passes (hr.mono (by decide)) (E := fun _ => E0) px0 (pa_cons (pe_gs rfl T.m_SIGN) (pa_cons pe_str pa_nil))))
      (pss_one (ps_expr (pe_gm0 (ok_Parser_take_column T) (pv 0) T.cl_Parser T.me_Parser_take_column (hr.mono (by decide)) (E := fun _ => E) (pxt (takes_of rfl rfl rfl rfl))))))
    (pss_one (ps_expr (pe_gm (ok_Parser_take T) (pv 0) T.cl_Parser T.me_Parser_take (hr.mono (by decide)) (E := fun _ => E) (pxt (takes_of rfl rfl rfl rfl)) (pa_cons (pe_gs rfl T.m_SIGN) (pa_cons pe_str pa_nil)))))))), ?_⟩), F.binds fun _ _ _ _ _ _ us hl => match us, hl with | [_], _ => rfl⟩, T.k_Parser_take_columns⟩
  · obtain ⟨g, l, rfl, _⟩ := h
    rfl
  · obtain ⟨g, l, rfl, S, kF, kR⟩ := h
    refine q_take rfl S kv_columns ev_c ev_c (fun hn => ?_) fun hn H1 S1 f1 => ?_
    · refine (kF _ ?_).at
      unfold VamvsBase.takeWord
      rw [taken_no hn]
      rfl
    have e0 : ((VamvsBase.takeWord "columns" l).bind fun r => takeColumns (r.length + 1) [] r) = (takeCol [] (l.drop 1)).bind fun x => takeColsC (l.drop 1).length [x.1] x.2 := by
      unfold VamvsBase.takeWord
      rw [taken_yes hn]
      exact takeColumns_succ _ _ _
    rw [e0] at kF kR
    refine m_column (t := emptyT) rfl S1 (by decide) (fun f z => ?_) fun b l1 z H2 S2 f2 => ?_
    · refine FaultAt.toM (kF f ?_) f1
      show Except.bind (takeCol [] (l.drop 1)) _ = _
      have z' : takeCol [] (l.drop 1) = .error f := z
      rw [z']
      rfl
    have z' : takeCol [] (l.drop 1) = .ok (b, l1) := z
    rw [z'] at kF kR
    obtain ⟨p0, zl, _⟩ := takeCol_ok z'
    have hl1 : l1.length < (l.drop 1).length := by rw [zl]; exact Nat.lt_succ_self _
    refine ⟨fun m σ' H' => ∃ (cs : List Bytes) (l2 : Toks), σ' = [some (.ref g.pa)] ∧ PSt a H' g l2 ⟨cs, [], []⟩ ∧ FrL g.muts H H' ∧ cs.length ≤ 4 ∧ takeColsC (l.drop 1).length [b] l1 = takeColsC (l2.length + 1) cs l2 ∧ m = l2.length,
      ⟨l1.length, [b], l1, rfl, S2, f1.trans f2, (by show (1 : Nat) ≤ 4; decide), takeColsC_fuel _ hl1 (Nat.lt_succ_self _), rfl⟩, ?_⟩
    rintro m σ' H' ⟨cs, l2, rfl, S3, f3, h4, hres, rfl⟩
    have kF' : ∀ f, takeColsC (l2.length + 1) cs l2 = .error f → FaultM a.c_Fault g H E f := fun f z => kF f (hres.trans z)
    have kR' : ∀ cs' l', takeColsC (l2.length + 1) cs l2 = .ok (cs', l') → ∀ H', PSt a H' g l' ⟨cs', [], []⟩ → FrL g.muts H H' → Q .non H' := fun cs' l' z => kR cs' l' (hres.trans z)
    refine m_passes rfl S3 kv_comma ev_c ev_c fun H4 S4 f4 => ⟨_, rfl, ?_⟩
    have f34 := f3.trans f4
    cases hc : VamvsBase.next (.sign 44) l2 with
    | true =>
      refine if_t rfl ?_
      rw [hc, if_pos rfl] at S4
      have hd := next_len hc
      have hun : takeColsC (l2.length + 1) cs l2 = (takeCol cs (l2.drop 1)).bind fun x => takeColsC l2.length (cs ++ [x.1]) x.2 := by
        unfold takeColsC
        rw [if_pos hc]
        exact takeColumns_succ _ _ _
      rw [hun] at kF' kR'
      refine ⟨fun σ2 H2 => ∃ (cs' : List Bytes) (l3 : Toks), σ2 = [some (.ref g.pa)] ∧ PSt a H2 g l3 ⟨cs', [], []⟩ ∧ FrL g.muts H H2 ∧ cs'.length ≤ 4 ∧ takeColsC (l.drop 1).length [b] l1 = takeColsC (l3.length + 1) cs' l3 ∧ l3.length < l2.length, ?_, ?_⟩
      · rintro σ2 H2 ⟨cs', l3, rfl, q1, q2, q3, q4, q5⟩
        exact ⟨l3.length, q5, cs', l3, rfl, q1, q2, q3, q4, rfl⟩
      · refine m_column rfl S4 h4 (fun f z => ?_) fun b' l3 z H5 S5 f5 => ?_
        · refine FaultAt.toM (kF' f ?_) f34
          have z' : takeCol cs (l2.drop 1) = .error f := z
          rw [z']
          rfl
        · have z' : takeCol cs (l2.drop 1) = .ok (b', l3) := z
          obtain ⟨p1, zl, _, zc, _⟩ := takeCol_ok z'
          have hl3 : l3.length < (l2.drop 1).length := by rw [zl]; exact Nat.lt_succ_self _
          refine ⟨cs ++ [b'], l3, rfl, S5, f34.trans f5, by rw [List.length_append, List.length_singleton]; omega, ?_, by omega⟩
          rw [hres, hun, z']
          have hl4 : l3.length < l2.length := Nat.lt_trans hl3 hd
          show takeColsC l2.length (cs ++ [b']) l3 = _
          exact takeColsC_fuel _ hl4 (Nat.lt_succ_self _)
    | false =>
      refine if_f rfl ?_
      rw [hc, if_neg (by decide)] at S4
      have hun : takeColsC (l2.length + 1) cs l2 = (VamvsBase.takeSign 59 l2).map fun m => (cs, m) := by
        unfold takeColsC
        rw [if_neg (by rw [hc]; decide)]
      rw [hun] at kF' kR'
      refine m_take rfl S4 kv_semi ev_c ev_c (fun hn => ?_) fun hn H5 S5 f5 => kR' cs _ ?_ H5 S5 (f34.trans f5)
      · refine FaultAt.toM (kF' _ ?_) f34
        unfold VamvsBase.takeSign
        rw [taken_no hn]
        rfl
      · unfold VamvsBase.takeSign
        rw [taken_yes hn]
        rfl
end
end BA

namespace BA
open PySem PySem.Spec PyProof.Rows L2 Evl
open VamvsBase (Bytes Fault PTok Toks RESERVED)
open Vamvsa (takeColumns takeNat takeValues takeInt takeAsked takeTimes takeAsk takeLines)

/-! ### rows and questions -/
def restRow (vs : List Nat) (l : Toks) : Except Fault (Vamvsa.Row × Toks) := (VamvsBase.takeSign 58 l).bind fun r => (takeInt r).bind fun x => (VamvsBase.takeSign 59 x.2).map fun m => ((⟨vs, x.1⟩ : Vamvsa.Row), m)
theorem rowOf_eq {t : Vamvsa.Table} {l : Toks} (h : t.rows.length < 16) : rowOf t l = (takeValues t.cols.length [] (l.drop 1)).bind fun v => restRow v.1 v.2 := if_neg (by show ¬ (16 : Nat) ≤ _; omega)
theorem takeInt_eq (r : Toks) : takeInt r = (takeNum 0 1000 (if VamvsBase.next (.sign 45) r = true then r.drop 1 else r)).map fun x => (if VamvsBase.next (.sign 45) r = true then -(x.1 : Int) else (x.1 : Int), x.2) := by
  unfold takeInt
  simp only [takeNat_eq]
  rfl
def sp_take_row (a : Ad) : Sp := fun vs H Q E => ∃ (g : PG_) (l : Toks) (t : Vamvsa.Table), vs = [.ref g.pa] ∧ PSt a H g l t ∧ t.cols.length ≤ 4 ∧ t.rows.length ≤ 16 ∧ VamvsBase.nextWord "row" l = true ∧
  (∀ f, rowOf t l = .error f → FaultM a.c_Fault g H E f) ∧ (∀ x l', rowOf t l = .ok (x, l') → ∀ H', PSt a H' g l' { t with rows := t.rows ++ [x] } → FrL g.muts H H' → Q .non H')
def sp_take_group (a : Ad) : Sp := fun vs H Q E => ∃ (g : PG_) (l : Toks) (t : Vamvsa.Table) (gr : Nat), vs = [.ref g.pa, .int (gr : Nat)] ∧ PSt a H g l t ∧ t.cols.length ≤ 4 ∧ gr < 16 ∧
  (∀ f, takeGrp t.cols gr l = .error f → FaultAt a.c_Fault H E f) ∧ (∀ g' l', takeGrp t.cols gr l = .ok (g', l') → ∀ H', PSt a H' g l' t → FrL g.muts H H' → Q (.int (g' : Nat)) H')
section
variable {P : Program} {w : World} {K : PySem.W.Frag} {mg : Str → Option Value} {base : Heap} {a : Ad} {H H' : Hp} {σ : L2.St} {g : PG_} {l : Toks} {t : Vamvsa.Table} {D : Ends} {tz : TS}
theorem m_number {E : XK} {ta tb : TE} {low high : Nat} {Q : VK} (h0 : σ[0]? = some (some (.ref g.pa))) (S : PSt a H g l t) (ha : Ev ta σ H (.int (low : Nat))) (hb : Ev tb σ H (.int (high : Nat))) (kF : ∀ f, takeNum low high l = .error f → FaultAt a.c_Fault H E f)
    (k : ∀ n l', takeNum low high l = .ok (n, l') → ∀ H1, PSt a H1 g l' t → FrL g.muts H H1 → Q (.int (n : Nat)) H1) : tGM a.c_Parser "take_number" (sp_take_number a) (fun _ => E) (tVar 0) (tCons ta (tCons tb tNil)) σ H Q :=
  gm_pa S h0 (by decide +kernel) (by decide +kernel) (by decide +kernel) (ea_cons ha (ea_cons hb ea_nil)) fun H1 e1 => ⟨g, l, t, low, high, rfl, S.ex e1, fun f z => (kF f z).go e1, fun n l' z H2 S2 f2 => k n l' z H2 S2 ((FrL.ex e1).trans f2)⟩
theorem eu_tupV {te : TE} {p : Addr} {xs : List V} (h : Ev te σ H (.ref p)) (hp : SqL K H p xs) : EvU (tCB (fun vs H Q => ∃ p ys, vs = [V.ref p] ∧ ((SqL K H p ys ∧ ∀ l, H l = none → Q (.ref l) (upd H l (.tup ys))) ∨ (SqT K H p ys ∧ Q (.ref p) H))) (tCons te tNil)) σ H xs := fun H1 e Q q =>
  h H1 e _ fun H2 e2 => ⟨p, xs, rfl, .inl ⟨ex_l (e.trans e2) hp, fun l hl => q l _ (fresh_back e2 hl) (e2.trans (Ex.new hl)) upd_same⟩⟩
/-- a field of the parser's table -/
theorem ev_tabF {f : Str} {v : V} {gg : TG_} {dy : Addr} (T : Txt K mg a) (h0 : σ[0]? = some (some (.ref g.pa))) (S : PSt a H g l t) (hd : H g.tb = some (.ins a.c_Table dy (tabF gg))) (hn : NoAttr K a.c_Table f) (hl : (tabF gg).lookup f = some v) : Ev (tFld K (tFld K (tVar 0) "table") f) σ H v := by
  obtain ⟨dx, l0, _, hp⟩ := S.pa
  exact ev_fld (ev_fld (ev_var h0) hp T.cl_Parser T.n_Parser_table (parF_table _ _)) hd T.cl_Table hn hl
theorem PSt.out (S : PSt a H g l t) {v : Addr} (hv : H v = none) : v ∉ g.muts := by
  obtain ⟨dx, l0, _, hp⟩ := S.pa
  obtain ⟨ns, rs, qs, TT⟩ := S.tab
  have m1 : v ≠ g.pa := (ne_of_none hp hv).symm
  have m2 : v ≠ g.c := (ne_of_none TT.c hv).symm
  have m3 : v ≠ g.r := (ne_of_none TT.r hv).symm
  have m4 : v ≠ g.q := (ne_of_none TT.q hv).symm
  simp [PG_.muts, m1, m2, m3, m4]
theorem vI_snoc (vs : List Nat) (n : Nat) : vI (vs ++ [n]) = vI vs ++ [.int (n : Nat)] := by unfold vI; rw [List.map_append]; rfl
theorem vI_len (vs : List Nat) : (vI vs).length = vs.length := List.length_map ..
/-- a new list stays while the parser's things change -/
theorem PSt.upV {v : Addr} {xs ys : List V} (S : PSt a H g l t) (hv : H v = some (.lst xs)) (n : v ∉ g.muts) (n2 : v ≠ g.ta) : PSt a (upd H v (.lst ys)) g l t := by
  obtain ⟨⟨dx, l0, h1, h2⟩, h3, h4, h5, ⟨ns', rs', qs', ⟨dy, k1⟩, k2, k3, k4, k5, k6, k7⟩, h7⟩ := S
  have nc : g.c ≠ v := fun e => n (by simp [PG_.muts, e])
  have nr : g.r ≠ v := fun e => n (by simp [PG_.muts, e])
  have nq : g.q ≠ v := fun e => n (by simp [PG_.muts, e])
  exact ⟨⟨dx, l0, h1, kpI hv h2⟩, kpL (xs := []) h3 n2.symm, TokL.up hv h4, h5, ⟨ns', rs', qs', ⟨dy, kpI hv k1⟩, kpL (xs := []) k2 nc, kpL (xs := []) k3 nr, kpL (xs := []) k4 nq, k5.up hv, k6.up hv, k7.up hv⟩, h7⟩
/-- the word of a row's loop -/
def RowW (a : Ad) (H : Hp) (g : PG_) (t : Vamvsa.Table) (l : Toks) (vl : Addr) (i : Nat) (σ' : L2.St) (H' : Hp) : Prop := ∃ (vs : List Nat) (l1 : Toks) (x : Option V), σ' = [some (.ref g.pa), some (.ref vl), x, none, none] ∧ vs.length = i ∧ i ≤ t.cols.length ∧ H' vl = some (.lst (vI vs)) ∧ PSt a H' g l1 t ∧ FrL g.muts H H' ∧
  (takeValues t.cols.length [] (l.drop 1)).bind (fun v => restRow v.1 v.2) = (takeValues (t.cols.length - i) vs l1).bind fun v => restRow v.1 v.2
theorem FrL.none {m : List Addr} {H1 H2 : Hp} {v : Addr} (f : FrL m H1 H2) (h : H2 v = none) (n : v ∉ m) : H1 v = none := by
  cases z : H1 v with
  | none => rfl
  | some o =>
    rw [f v o z n] at h
    cases h
theorem ok_Parser_take_row (T : Txt K mg a) : Good P w K mg base 5 a.f_Parser_take_row ["self"] (sp_take_row a) := by
  obtain ⟨fd, F⟩ := T.F_Parser_take_row
  refine ⟨⟨fd, F.okX sc_Parser_take_row (fun vs H Q E h => ?_) (fun cdv A outer s H vs Q E hr h => ⟨_, (pss_cons (ps_expr (pe_gm (ok_Parser_fail_if T) (pv 0) T.cl_Parser T.me_Parser_fail_if (hr.mono (by decide)) (E := fun _ => E) (pxt (takes_of rfl rfl rfl rfl)) (pa_cons (pe_cmpR op_eq (pe_callB call_len_seq (by rfl) T.b_len (by decide +kernel) (pa_cons (pe_fld (pe_fld (pv 0) rfl) rfl) pa_nil)) (pe_gi rfl T.m_MOST_ROWS) (nomark _)) (pa_cons (pe_gi rfl T.m_TOO_MANY) pa_nil))))
    (pss_cons (ps_expr (pe_gm (ok_Parser_take T) (pv 0) T.cl_Parser T.me_Parser_take (hr.mono (by decide)) (E := fun _ => E) (pxt (takes_of rfl rfl rfl rfl)) (pa_cons (pe_gs rfl T.m_WORD) (pa_cons pe_str pa_nil))))
    (pss_cons (ps_set (i := 1) sc_Parser_take_row.nd rfl (Or.inl rfl) (pe_lst pa_nil))
    (pss_cons (ps_for (passes_of rfl) rfl (pi_range1 rfl T.b_range (pa_cons (pe_callB call_len_seq (by rfl) T.b_len (by decide +kernel) (pa_cons (pe_fld (pe_fld (pv 0) rfl) rfl) pa_nil)) pa_nil)) (pg_name (i := 2) sc_Parser_take_row.nd rfl (Or.inl rfl))
      (pss_cons (ps_if (pt_cmpR op_gt (pv 2) pe_int (nomark _))
      (pss_one (ps_expr (pe_gm (ok_Parser_take T) (pv 0) T.cl_Parser T.me_Parser_take (hr.mono (by decide)) (E := fun _ => E) (pxt (takes_of rfl rfl rfl rfl)) (pa_cons (pe_gs rfl T.m_SIGN) (pa_cons pe_str pa_nil)))))
      pss_nil)
    (pss_one (ps_expr (pe_bm PySem.F.plainAttrs_list PySem.F.slot_list_append PySem.F.type_list_append mt_append (pv 1) (pa_cons (pe_gm (ok_Parser_take_number T) (pv 0) T.cl_Parser T.me_Parser_take_number (hr.mono (by decide)) (E := fun _ => E) (pxt (takes_of rfl rfl rfl rfl)) (pa_cons pe_int (pa_cons (pe_gi rfl T.m_MOST_VALUE) pa_nil))) pa_nil))))))
    (pss_cons (ps_expr (pe_gm (ok_Parser_take T) (pv 0) T.cl_Parser T.me_Parser_take (hr.mono (by decide)) (E := fun _ => E) (pxt (takes_of rfl rfl rfl rfl)) (pa_cons (pe_gs rfl T.m_SIGN) (pa_cons pe_str pa_nil))))
    (pss_cons (ps_set (i := 3) sc_Parser_take_row.nd rfl (Or.inl rfl) (pe_gm (ok_Parser_passes T) (pv 0) T.cl_Parser T.me_Parser_passes (hr.mono (by decide)) (E := fun _ => E0) px0 (pa_cons (pe_gs rfl T.m_SIGN) (pa_cons pe_str pa_nil))))
    (pss_cons (ps_set (i := 4) sc_Parser_take_row.nd rfl (Or.inl rfl) (pe_gm (ok_Parser_take_number T) (pv 0) T.cl_Parser T.me_Parser_take_number (hr.mono (by decide)) (E := fun _ => E) (pxt (takes_of rfl rfl rfl rfl)) (pa_cons pe_int (pa_cons (pe_gi rfl T.m_MOST_SUM) pa_nil))))
    (pss_cons (ps_expr (pe_gm (ok_Parser_take T) (pv 0) T.cl_Parser T.me_Parser_take (hr.mono (by decide)) (E := fun _ => E) (pxt (takes_of rfl rfl rfl rfl)) (pa_cons (pe_gs rfl T.m_SIGN) (pa_cons pe_str pa_nil))))
    (pss_one (ps_expr (pe_bm PySem.F.plainAttrs_list PySem.F.slot_list_append PySem.F.type_list_append mt_append (pe_fld (pe_fld (pv 0) rfl) rfl) (pa_cons (pe_tup (pa_cons (pe_callTy call_tuple_of (by rfl) T.b_tuple (by decide +kernel) (pa_cons (pv 1) pa_nil)) (pa_cons (pe_ifExp (pt_val (pv 3)) (pe_op op_sub pe_int (pv 4)) (pv 4)) pa_nil))) pa_nil)))))))))))), ?_⟩), F.binds fun _ _ _ _ _ _ us hl => match us, hl with | [_], _ => rfl⟩, T.k_Parser_take_row⟩
  · obtain ⟨g, l, t, rfl, _⟩ := h
    rfl
  · obtain ⟨g, l, t, rfl, S, h4, h16, hrow, kF, kR⟩ := h
    obtain ⟨ns, rs, qs, TT⟩ := S.tab
    obtain ⟨dy, htb⟩ := TT.tb
    have hrl : rs.length = t.rows.length := prs_len TT.rs
    refine q_fail (b := decide (t.rows.length = 16)) rfl S (ev_is (ev_op (ev_len (ev_tabF T rfl S htb T.n_Table_rows (tabF_r _)) (sq_of TT.r)) ev_c (rv_eq rfl)) ?_) ev_c (fun hb => ?_) fun hb H1 e1 => ?_
    · rw [refs_len, hrl]
      congr 1
      rw [Bool.eq_iff_iff, decide_eq_true_iff, decide_eq_true_iff, V.int.injEq]
      omega
    · refine (kF _ ?_).at
      have : t.rows.length = 16 := of_decide_eq_true hb
      exact if_pos (by show (16 : Nat) ≤ _; omega)
    have hlt : t.rows.length < 16 := by
      have : ¬ t.rows.length = 16 := of_decide_eq_false hb
      omega
    rw [rowOf_eq hlt] at kF kR
    refine q_take rfl (S.ex e1) kv_row ev_c ev_c (fun hn => ?_) fun hn H2 S2 f2 => ?_
    · rw [show VamvsBase.next (.name (VamvsBase.word "row")) l = true from hrow] at hn
      cases hn
    have f12 : FrL g.muts H H2 := (FrL.ex e1).trans f2
    refine q_asgL (el_lst ea_nil (by decide)) fun vl H3 hvl e3 h3 => ?_
    have S3 := S2.ex e3
    have f13 : FrL g.muts H H3 := f12.trans (FrL.ex e3)
    have nvl : vl ∉ g.muts := S2.out hvl
    have nvt : vl ≠ g.ta := (ne_of_none S2.ta hvl).symm
    obtain ⟨ns3, rs3, qs3, TT3⟩ := S3.tab
    obtain ⟨dy3, htb3⟩ := TT3.tb
    have hcl : ns3.length = t.cols.length := prs_len TT3.ns
    have hvl0 : H vl = none := f12.none hvl nvl
    refine q_forR1 (ea_cons (ev_len (ev_tabF T rfl S3 htb3 T.n_Table_columns (tabF_c _)) (sq_of TT3.c)) ea_nil) (by rw [refs_len, hcl]; omega) (RowW a H g t l vl)
      (fun H4 e4 => ⟨[], l.drop 1, none, rfl, rfl, Nat.zero_le _, e4 _ _ h3, S3.ex e4, f13.trans (FrL.ex e4), rfl⟩) ?_ ?_
    · rintro i σ' H' hi ⟨vs, l1, x, rfl, hvs, hle, hl1, S4, f4, hres⟩
      rw [refs_len, hcl] at hi
      have hi' : i < t.cols.length := by omega
      obtain ⟨k, hk⟩ : ∃ k, t.cols.length - i = k + 1 := ⟨t.cols.length - i - 1, by omega⟩
      rw [hk] at hres
      rw [hres] at kF
      -- what comes once the comma is taken
      have body : ∀ (l2 : Toks) (H5 : Hp), PSt a H5 g l2 t → FrL g.muts H' H5 → takeValues (k + 1) vs l1 = ((takeNat Vamvsa.VALUE l2).bind fun x => takeValues k (vs ++ [x.1]) x.2) → ∀ D : Ends, (∀ σ2 H2, RowW a H g t l vl (i + 1) σ2 H2 → D.nx σ2 H2) →
          tDrop (tBM K "list" rAppend (tVar 1) (tCons (tGM a.c_Parser "take_number" (sp_take_number a) (fun _ => E) (tVar 0) (tCons (tC (.int 0)) (tCons (tC (.int 9)) tNil))) tNil)) D [some (.ref g.pa), some (.ref vl), some (.int (i : Nat)), none, none] H5 := by
        intro l2 H5 S5 f5 htv D hD
        have h5 : H5 vl = some (.lst (vI vs)) := f5 _ _ hl1 nvl
        refine ⟨.ref vl, rfl, Or.inl ⟨rfl, _, sq_of h5⟩, ?_⟩
        refine m_number (low := 0) (high := 9) rfl S5 ev_c ev_c (fun f z => ?_) fun n l3 z H6 S6 f6 => ?_
        · refine FaultAt.toM (kF f ?_) (f4.trans f5)
          rw [htv, takeNat_eq, show Vamvsa.VALUE = 9 from rfl, z]
          rfl
        · have h6 : H6 vl = some (.lst (vI vs)) := f6 _ _ h5 nvl
          refine ⟨vl, vI vs, .int (n : Nat), rfl, rfl, h6, sz_lt (by rw [vI_len]; omega), hD _ _ ⟨vs ++ [n], l3, _, rfl, by rw [List.length_append, List.length_singleton, hvs], by omega, ?_, S6.upV h6 nvl nvt, ((f4.trans f5).trans f6).upN hvl0, ?_⟩⟩
          · rw [vI_snoc]; exact upd_same
          · rw [hres, htv, takeNat_eq, show Vamvsa.VALUE = 9 from rfl, z]
            have : t.cols.length - (i + 1) = k := by omega
            rw [this]
            rfl
      refine q_when (b := decide (0 < i)) (et_is (et_test (ev_op (ev_var rfl) ev_c rv_I0)) ?_) (fun hb H5 e5 => ?_) (fun hb H5 e5 => ?_)
      · rw [Bool.eq_iff_iff, decide_eq_true_iff, decide_eq_true_iff]
        omega
      · have h0i : 0 < i := of_decide_eq_true hb
        have hne : vs.isEmpty = false := by
          cases vs with
          | nil => simp at hvs; omega
          | cons _ _ => rfl
        have htv : takeValues (k + 1) vs l1 = (VamvsBase.takeSign 44 l1).bind fun r => (takeNat Vamvsa.VALUE r).bind fun x => takeValues k (vs ++ [x.1]) x.2 := by
          rw [takeValues, if_neg (by rw [hne]; decide)]
        refine m_take rfl (S4.ex e5) kv_comma ev_c ev_c (fun hn => ?_) fun hn H6 S6 f6 => ?_
        · refine FaultAt.toM (kF _ ?_) (f4.trans (FrL.ex e5))
          rw [htv]
          unfold VamvsBase.takeSign
          rw [taken_no hn]
          rfl
        · refine body _ H6 S6 ((FrL.ex e5).trans f6) ?_ _ fun _ _ z => z
          rw [htv]
          unfold VamvsBase.takeSign
          rw [taken_yes hn]
          rfl
      · have h0i : i = 0 := by
          have : ¬ 0 < i := of_decide_eq_false hb
          omega
        have hem : vs = [] := List.length_eq_zero_iff.mp (hvs.trans h0i)
        refine body l1 H5 (S4.ex e5) (FrL.ex e5) ?_ _ fun _ _ z => z
        rw [takeValues, hem]
        rfl
    · rintro σ' H' ⟨vs, l1, x, rfl, hvs, hle, hl1, S4, f4, hres⟩
      have hvs' : vs.length = t.cols.length := by
        rw [hvs, refs_len, hcl]
        omega
      have hz : t.cols.length - ((((refs ns3).length : Nat) : Int).toNat) = 0 := by rw [refs_len, hcl]; omega
      rw [hz] at hres
      have hres' : (takeValues t.cols.length [] (l.drop 1)).bind (fun v => restRow v.1 v.2) = restRow vs l1 := hres
      rw [hres'] at kF kR
      refine q_take rfl S4 kv_colon ev_c ev_c (fun hn => ?_) fun hn H5 S5 f5 => ?_
      · refine FaultAt.toM (kF _ ?_) f4
        unfold restRow VamvsBase.takeSign
        rw [taken_no hn]
        rfl
      have r1 : restRow vs l1 = (takeInt (l1.drop 1)).bind fun x => (VamvsBase.takeSign 59 x.2).map fun m => ((⟨vs, x.1⟩ : Vamvsa.Row), m) := by
        unfold restRow
        rw [show VamvsBase.takeSign 58 l1 = .ok (l1.drop 1) from taken_yes hn]
        rfl
      rw [r1] at kF kR
      have f45 := f4.trans f5
      refine q_asgR (m_passes rfl S5 kv_minus ev_c ev_c fun H6 S6 f6 => ?_)
      have f46 := f45.trans f6
      rw [takeInt_eq] at kF kR
      refine q_asgR (m_number (low := 0) (high := 1000) rfl S6 ev_c ev_c (fun f z => ?_) fun n l3 z H7 S7 f7 => ?_)
      · refine FaultAt.toM (kF f ?_) f46
        rw [z]
        rfl
      rw [z] at kF kR
      have f47 := f46.trans f7
      refine q_take rfl S7 kv_semi ev_c ev_c (fun hn2 => ?_) fun hn2 H8 S8 f8 => ?_
      · refine FaultAt.toM (kF _ ?_) f47
        show Except.map _ (VamvsBase.takeSign 59 l3) = _
        rw [show VamvsBase.takeSign 59 l3 = .error ⟨3, VamvsBase.here l3⟩ from taken_no hn2]
        rfl
      have f48 := f47.trans f8
      have h8 : H8 vl = some (.lst (vI vs)) := f8 _ _ (f7 _ _ (f6 _ _ (f5 _ _ hl1 nvl) nvl) nvl) nvl
      obtain ⟨ns8, rs8, qs8, TT8⟩ := S8.tab
      obtain ⟨dy8, htb8⟩ := TT8.tb
      have hr8 : rs8.length = t.rows.length := prs_len TT8.rs
      refine s_appP (K := K) TT8.r (ev_tabF T rfl S8 htb8 T.n_Table_rows (tabF_r _)) (ep_pairU (eu_tupV (ev_var rfl) (sq_of h8)) (ev_if (v := .int (if VamvsBase.next (.sign 45) (l1.drop 1) = true then -(n : Int) else (n : Int))) (et_B (ev_var rfl)) (fun hb => ev_is (ev_op ev_c (ev_var rfl) rv_I0) ?_) (fun hb => ev_is (ev_var rfl) ?_))) (by rw [refs_len, hr8]; omega) fun w H9 e9 ⟨p, v, hw, hp, hv⟩ => ?_
      · rw [if_pos hb, Int.zero_sub]
      · rw [if_neg (by rw [hb]; decide)]
      subst hw
      refine kR ⟨vs, if VamvsBase.next (.sign 45) (l1.drop 1) = true then -(n : Int) else (n : Int)⟩ (l3.drop 1) ?_ _ ((S8.ex e9).upR (e9 _ _ TT8.r) (prs_imp (fun _ _ ⟨v, q1, q2⟩ => ⟨v, e9 _ _ q1, e9 _ _ q2⟩) TT8.rs) hp hv) ((f48.trans (FrL.ex e9)).trans (FrL.up mem_r))
      show Except.map _ (VamvsBase.takeSign 59 l3) = _
      rw [show VamvsBase.takeSign 59 l3 = .ok (l3.drop 1) from taken_yes hn2]
      rfl
end
end BA

namespace BA
open PySem PySem.Spec PyProof.Rows L2 Evl
open VamvsBase (Bytes Fault PTok Toks RESERVED)
open Vamvsa (takeColumns takeNat takeValues takeInt takeAsked takeTimes takeAsk takeLines)

theorem q_asgU2 {K : PySem.W.Frag} {σ : L2.St} {H : Hp} {te : TE} {x v : V} {D : Ends} {tz : TS} {i j : Nat} (h : EvU te σ H [x, v]) (k : ∀ H1, Ex H H1 → tz D ((σ.set i (some x)).set j (some v)) H1) : tSeq (tAsg te (gTup K 2 (gCons (gName i) (gCons (gName j) gNil)))) tz D σ H :=
  h H (Ex.refl H) _ fun p H1 hp e1 h1 => ⟨p, _, rfl, st_of h1, rfl, _, _, rfl, _, _, rfl, rfl, k H1 e1⟩
theorem bit_ne {gr i : Nat} (hg : gr < 16) (hi : i < 4) : (!decide (V.int (Builtin.bitAnd (gr : Int) ((2 ^ i : Nat) : Int)) = V.int 0)) = decide (gr / 2 ^ i % 2 = 1) := by
  have : ∀ (gr : Fin 16) (i : Fin 4), (!decide (V.int (Builtin.bitAnd ((gr.1 : Nat) : Int) ((2 ^ i.1 : Nat) : Int)) = V.int 0)) = decide (gr.1 / 2 ^ i.1 % 2 = 1) := by decide +kernel
  exact this ⟨gr, hg⟩ ⟨i, hi⟩
section
variable {P : Program} {w : World} {K : PySem.W.Frag} {mg : Str → Option Value} {base : Heap} {a : Ad} {H H' : Hp} {σ : L2.St} {g : PG_} {l : Toks} {t : Vamvsa.Table} {D : Ends} {tz : TS}
/-- columns.index(value) -/
theorem ev_index {ta tb : TE} {c q : Addr} {ns : List Addr} {cs : List Bytes} {b : Bytes} {i : Nat} (ha : Ev ta σ H (.ref c)) (hb : Ev tb σ H (.ref q)) (hc : H c = some (.lst (refs ns))) (hn : NamL H ns cs) (hq : H q = some (.tup (bv b))) (hi : (cs.findIdx? fun c => c == b) = some i) :
    Ev (tBM K "list" (rIndexD K) ta (tCons tb tNil)) σ H (.int (i : Nat)) := fun H1 e Q k => ha H1 e _ fun H2 e2 => ⟨Or.inl ⟨rfl, _, SqL.of ((e.trans e2) _ _ hc)⟩, hb H2 (e.trans e2) _ fun H3 e3 => by
  obtain ⟨h1, h2⟩ := find_first hi
  have e13 := (e.trans e2).trans e3
  refine ⟨c, _, _, _, i, PyData.tuple ((bi b).map PyData.int), rfl, rfl, .lst (SqL.of (e13 _ _ hc)) (dpAll_names (hn.ex e13)), .tup (by rw [← bv_bi]; exact SqT.of (e13 _ _ hq)) (dpAll_ints (bi b)), shaped_names cs, shaped_tupI _, ?_, ?_, ?_, k H3 (e2.trans e3)⟩
  · rw [List.getElem?_map, h1]
    rfl
  · rw [PyData.eqv, eqv_ints]
    exact decide_eq_true rfl
  · intro m z' hm hz
    rw [List.getElem?_map] at hz
    cases hz2 : cs[m]? with
    | none => rw [hz2] at hz; cases hz
    | some c' =>
      rw [hz2] at hz
      cases hz
      rw [PyData.eqv, eqv_ints]
      exact decide_eq_false fun e => h2 m c' hm hz2 (bi_inj.mp e)⟩
theorem ok_Parser_take_group (T : Txt K mg a) : Good P w K mg base 4 a.f_Parser_take_group ["self", "grouping"] (sp_take_group a) := by
  obtain ⟨fd, F⟩ := T.F_Parser_take_group
  refine ⟨⟨fd, F.okX sc_Parser_take_group (fun vs H Q E h => ?_) (fun cdv A outer s H vs Q E hr h => ⟨_, (pss_cons (ps_par (i := 2) (j := 3) (by rfl) sc_Parser_take_group.nd rfl rfl (by decide) rfl rfl (pa_cons (pe_gm0 (ok_Parser_here T) (pv 0) T.cl_Parser T.me_Parser_here (hr.mono (by decide)) (E := fun _ => E0) px0) (pa_cons (pe_fld (pe_fld (pv 0) rfl) rfl) pa_nil)) (by rfl))
    (pss_cons (ps_expr (pe_gm (ok_Parser_fail_if T) (pv 0) T.cl_Parser T.me_Parser_fail_if (hr.mono (by decide)) (E := fun _ => E) (pxt (takes_of rfl rfl rfl rfl)) (pa_cons (pe_cmpR op_ne (pe_fld (pv 2) rfl) (pe_gs rfl T.m_NAME) (nomark _)) (pa_cons (pe_gi rfl T.m_NOT_ALLOWED) pa_nil))))
    (pss_cons (ps_expr (pe_gm (ok_Parser_fail_if T) (pv 0) T.cl_Parser T.me_Parser_fail_if (hr.mono (by decide)) (E := fun _ => E) (pxt (takes_of rfl rfl rfl rfl)) (pa_cons (pe_cmpR (op_notInD (u65 hr)) (pe_fld (pv 2) rfl) (pv 3) (by rfl)) (pa_cons (pe_gi rfl T.m_NO_COLUMN) pa_nil))))
    (pss_cons (ps_set (i := 4) sc_Parser_take_group.nd rfl (Or.inl rfl) (pe_ix ix_tup (pe_gr rfl T.m_WEIGHTS) (pe_bm PySem.F.plainAttrs_list PySem.F.slot_list_index PySem.F.type_list_index (mt_indexD (u65 hr)) (pv 3) (pa_cons (pe_fld (pv 2) rfl) pa_nil)) (fun _ _ => rfl)))
    (pss_cons (ps_expr (pe_gm (ok_Parser_fail_if T) (pv 0) T.cl_Parser T.me_Parser_fail_if (hr.mono (by decide)) (E := fun _ => E) (pxt (takes_of rfl rfl rfl rfl)) (pa_cons (pe_cmpR op_ne (pe_op op_and (pv 1) (pv 4)) pe_int (nomark _)) (pa_cons (pe_gi rfl T.m_TWICE) pa_nil))))
    (pss_cons (ps_fldaug (pv 0) pe_int in_add)
    (pss_one (ps_ret (pe_op op_add (pv 1) (pv 4)))))))))), ?_⟩), F.binds fun _ _ _ _ _ _ us hl => match us, hl with | [_, _], _ => rfl⟩, T.k_Parser_take_group⟩
  · obtain ⟨g, l, t, gr, rfl, _⟩ := h
    rfl
  · obtain ⟨g, l, t, gr, rfl, S, h4, hg, kF, kR⟩ := h
    obtain ⟨q, tk, r, rfl, hq, dz, k1, v1, z1, z2⟩ := S.here
    obtain ⟨pl, tok⟩ := tk
    obtain ⟨ns, rs, qs, TT⟩ := S.tab
    obtain ⟨dy, htb⟩ := TT.tb
    refine q_parVV (ev_here rfl S hq) (ev_tabF T rfl S htb T.n_Table_columns (tabF_c _)) fun H1 e1 => ?_
    have S1 := S.ex e1
    refine q_fail (b := !decide (V.str k1 = V.str "name")) rfl S1 (ev_op (ev_fld (ev_var rfl) (e1 _ _ z1) T.cl_Token T.n_Token_kind (tkF_kind _ _ _)) ev_c (rv_ne rfl)) ev_c (fun hb => ?_) fun hb H2 e2 => ?_
    · refine (kF _ ?_).go e1
      have hk : k1 ≠ "name" := by
        intro e
        rw [e, decide_eq_true rfl] at hb
        cases hb
      unfold takeGrp
      rw [notName z2 hk]
      rfl
    have hk : k1 = "name" := by
      have : decide (V.str k1 = V.str "name") = true := by simpa using hb
      exact V.str.inj (of_decide_eq_true this)
    obtain ⟨b, nq, rfl, rfl, hres, hnq⟩ := isName z2 hk
    have htn : VamvsBase.takeName (⟨pl, .name b⟩ :: r) = .ok (⟨pl, b⟩, r) := if_neg (by rw [hres]; decide)
    have S2 := S1.ex e2
    have e12 := e1.trans e2
    have hcl := TT.c
    refine q_fail (b := !t.cols.contains b) rfl S2 (ev_op (ev_fld (ev_var rfl) (e12 _ _ z1) T.cl_Token T.n_Token_value (tkF_value _ _ _)) (ev_var rfl) (rv_niNames (e12 _ _ hcl) (TT.ns.ex e12) (e12 _ _ hnq))) ev_c (fun hb => ?_) fun hb H3 e3 => ?_
    · refine (kF _ ?_).go e12
      have hc : t.cols.contains b = false := by simpa using hb
      unfold takeGrp
      rw [htn]
      show (match t.cols.findIdx? fun c => c == b with | none => Except.error (⟨8, pl⟩ : Fault) | some i => _) = _
      rw [find_none.mpr hc]
      rfl
    have hc : t.cols.contains b = true := by simpa using hb
    obtain ⟨i, hi⟩ : ∃ i, (t.cols.findIdx? fun c => c == b) = some i := by
      cases z : t.cols.findIdx? fun c => c == b with
      | none =>
        rw [find_none.mp z] at hc
        cases hc
      | some i => exact ⟨i, rfl⟩
    have hil : i < t.cols.length := (List.getElem?_eq_some_iff.mp (find_first hi).1).1
    have e13 := e12.trans e3
    refine q_asg (ev_op ev_c (ev_index (ev_var rfl) (ev_fld (ev_var rfl) (e13 _ _ z1) T.cl_Token T.n_Token_value (tkF_value _ _ _)) (e13 _ _ hcl) (TT.ns.ex e13) (e13 _ _ hnq) hi) (rv_ixT (T.t_WEIGHTS _) (atI_nat (weights_at (by omega))))) fun H4 e4 => ?_
    have S4 := (S2.ex e3).ex e4
    have e14 := e13.trans e4
    have hgrp : takeGrp t.cols gr (⟨pl, .name b⟩ :: r) = if gr / 2 ^ i % 2 = 1 then .error ⟨6, pl⟩ else .ok (gr + 2 ^ i, r) := by
      unfold takeGrp
      rw [htn]
      show (match t.cols.findIdx? fun c => c == b with | none => Except.error (⟨8, pl⟩ : Fault) | some i => if gr / 2 ^ i % 2 = 1 then .error ⟨6, pl⟩ else .ok (gr + 2 ^ i, r)) = _
      rw [hi]
    refine q_fail (b := decide (gr / 2 ^ i % 2 = 1)) rfl S4 (ev_is (ev_op (ev_op (ev_var rfl) (ev_var rfl) rv_I0) ev_c (rv_ne rfl)) (congrArg _ (bit_ne hg (by omega)))) ev_c (fun hb => ?_) fun hb H5 e5 => ?_
    · refine (kF _ ?_).go e14
      rw [hgrp, if_pos (of_decide_eq_true hb)]
      rfl
    refine q_adv T rfl (S4.ex e5) (by intro z; cases z) fun H6 S6 f6 => s_ret (ev_op (ev_var rfl) (ev_var rfl) rv_I0) fun H7 e7 => kR (gr + 2 ^ i) r ?_ H7 (S6.ex e7) (((FrL.ex (e14.trans e5)).trans f6).trans (FrL.ex e7))
    rw [hgrp, if_neg (of_decide_eq_false hb)]

/-! ### a question -/
def sp_take_question (a : Ad) : Sp := fun vs H Q E => ∃ (g : PG_) (l : Toks) (t : Vamvsa.Table), vs = [.ref g.pa] ∧ PSt a H g l t ∧ t.cols.length ≤ 4 ∧ t.asks.length ≤ 8 ∧ VamvsBase.nextWord "ask" l = true ∧
  (∀ f, askOf t l = .error f → FaultM a.c_Fault g H E f) ∧ (∀ x l', askOf t l = .ok (x, l') → ∀ H', PSt a H' g l' { t with asks := t.asks ++ [x] } → FrL g.muts H H' → Q .non H')
theorem m_group {E : XK} {ta : TE} {gr : Nat} {Q : VK} (h0 : σ[0]? = some (some (.ref g.pa))) (S : PSt a H g l t) (h4 : t.cols.length ≤ 4) (hg : gr < 16) (ha : Ev ta σ H (.int (gr : Nat))) (kF : ∀ f, takeGrp t.cols gr l = .error f → FaultAt a.c_Fault H E f)
    (k : ∀ n l', takeGrp t.cols gr l = .ok (n, l') → ∀ H1, PSt a H1 g l' t → FrL g.muts H H1 → Q (.int (n : Nat)) H1) : tGM a.c_Parser "take_group" (sp_take_group a) (fun _ => E) (tVar 0) (tCons ta tNil) σ H Q :=
  gm_pa S h0 (by decide +kernel) (by decide +kernel) (by decide +kernel) (ea_cons ha ea_nil) fun H1 e1 => ⟨g, l, t, gr, rfl, S.ex e1, h4, hg, fun f z => (kF f z).go e1, fun n l' z H2 S2 f2 => k n l' z H2 S2 ((FrL.ex e1).trans f2)⟩
theorem askG_eq (cs : List Bytes) (l : Toks) : takeAskG cs l = if VamvsBase.nextWord "times" l = true ∨ VamvsBase.next (.sign 59) l = true then .ok (0, l) else (takeGrp cs 0 l).bind fun x => takeGrpC cs l.length x.1 x.2 := by
  unfold takeAskG
  rw [takeAsked_succ]
/-- the end of a question: how often, ; -/
def restAsk (g : Nat) (l : Toks) : Except Fault (Vamvsa.Ask × Toks) := (takeTimes l).bind fun k => (VamvsBase.takeSign 59 k.2).map fun m => ((⟨g, k.1⟩ : Vamvsa.Ask), m)
theorem takeAsk_eq (cs : List Bytes) (l : Toks) : takeAsk cs l = (takeAskG cs l).bind fun g => restAsk g.1 g.2 := rfl
theorem isName_kind {H : Hp} {tk : BTok} {k : Str} {v : V} (h : TkV H tk k v) : k = "name" ↔ ∃ b, tk = .name b ∧ RESERVED.contains b = false := by
  constructor
  · intro e
    obtain ⟨b, q, h1, h2, h3, h4⟩ := isName h e
    exact ⟨b, h1, h3⟩
  · rintro ⟨b, rfl, hb⟩
    cases h with
    | name _ _ => rfl
    | word h2 => rw [hb] at h2; cases h2
theorem ok_Parser_take_question (T : Txt K mg a) : Good P w K mg base 5 a.f_Parser_take_question ["self"] (sp_take_question a) := by
  obtain ⟨fd, F⟩ := T.F_Parser_take_question
  refine ⟨⟨fd, F.okX sc_Parser_take_question (fun vs H Q E h => ?_) (fun cdv A outer s H vs Q E hr h => ⟨_, (pss_cons (ps_expr (pe_gm (ok_Parser_fail_if T) (pv 0) T.cl_Parser T.me_Parser_fail_if (hr.mono (by decide)) (E := fun _ => E) (pxt (takes_of rfl rfl rfl rfl)) (pa_cons (pe_cmpR op_eq (pe_callB call_len_seq (by rfl) T.b_len (by decide +kernel) (pa_cons (pe_fld (pe_fld (pv 0) rfl) rfl) pa_nil)) (pe_gi rfl T.m_MOST_QUESTIONS) (nomark _)) (pa_cons (pe_gi rfl T.m_TOO_MANY) pa_nil))))
    (pss_cons (ps_expr (pe_gm (ok_Parser_take T) (pv 0) T.cl_Parser T.me_Parser_take (hr.mono (by decide)) (E := fun _ => E) (pxt (takes_of rfl rfl rfl rfl)) (pa_cons (pe_gs rfl T.m_WORD) (pa_cons pe_str pa_nil))))
    (pss_cons (ps_asg (pe_tup (pa_cons pe_int (pa_cons pe_int pa_nil))) (pg_tup rfl (pgs_cons (pg_name (i := 1) sc_Parser_take_question.nd rfl (Or.inl rfl)) (pgs_cons (pg_name (i := 2) sc_Parser_take_question.nd rfl (Or.inl rfl)) pgs_nil))))
    (pss_cons (ps_if (pt_cmpR op_eq (pe_fld (pe_gm0 (ok_Parser_here T) (pv 0) T.cl_Parser T.me_Parser_here (hr.mono (by decide)) (E := fun _ => E0) px0) rfl) (pe_gs rfl T.m_NAME) (nomark _))
      (pss_cons (ps_set (i := 1) sc_Parser_take_question.nd rfl (Or.inl rfl) (pe_gm (ok_Parser_take_group T) (pv 0) T.cl_Parser T.me_Parser_take_group (hr.mono (by decide)) (E := fun _ => E) (pxt (takes_of rfl rfl rfl rfl)) (pa_cons (pv 1) pa_nil)))
    (pss_one (ps_while (passes_of rfl) (pt_val (pe_gm (ok_Parser_passes T) (pv 0) T.cl_Parser T.me_Parser_passes (hr.mono (by decide)) (E := fun _ => E0) px0 (pa_cons (pe_gs rfl T.m_SIGN) (pa_cons pe_str pa_nil))))
      (pss_one (ps_set (i := 1) sc_Parser_take_question.nd rfl (Or.inl rfl) (pe_gm (ok_Parser_take_group T) (pv 0) T.cl_Parser T.me_Parser_take_group (hr.mono (by decide)) (E := fun _ => E) (pxt (takes_of rfl rfl rfl rfl)) (pa_cons (pv 1) pa_nil)))))))
      pss_nil)
    (pss_cons (ps_if (pt_val (pe_gm (ok_Parser_passes T) (pv 0) T.cl_Parser T.me_Parser_passes (hr.mono (by decide)) (E := fun _ => E0) px0 (pa_cons (pe_gs rfl T.m_WORD) (pa_cons pe_str pa_nil))))
      (pss_one (ps_set (i := 2) sc_Parser_take_question.nd rfl (Or.inl rfl) (pe_gm (ok_Parser_take_number T) (pv 0) T.cl_Parser T.me_Parser_take_number (hr.mono (by decide)) (E := fun _ => E) (pxt (takes_of rfl rfl rfl rfl)) (pa_cons pe_int (pa_cons (pe_gi rfl T.m_MOST_TIMES) pa_nil)))))
      pss_nil)
    (pss_cons (ps_expr (pe_gm (ok_Parser_take T) (pv 0) T.cl_Parser T.me_Parser_take (hr.mono (by decide)) (E := fun _ => E) (pxt (takes_of rfl rfl rfl rfl)) (pa_cons (pe_gs rfl T.m_SIGN) (pa_cons pe_str pa_nil))))
    (pss_one (ps_expr (pe_bm PySem.F.plainAttrs_list PySem.F.slot_list_append PySem.F.type_list_append mt_append (pe_fld (pe_fld (pv 0) rfl) rfl) (pa_cons (pe_tup (pa_cons (pv 1) (pa_cons (pv 2) pa_nil))) pa_nil)))))))))), ?_⟩), F.binds fun _ _ _ _ _ _ us hl => match us, hl with | [_], _ => rfl⟩, T.k_Parser_take_question⟩
  · obtain ⟨g, l, t, rfl, _⟩ := h
    rfl
  · obtain ⟨g, l, t, rfl, S, h4, h8, hask, kF, kR⟩ := h
    obtain ⟨ns, rs, qs, TT⟩ := S.tab
    obtain ⟨dy, htb⟩ := TT.tb
    have hql : qs.length = t.asks.length := prs_len TT.qs
    have hw : VamvsBase.takeWord "ask" l = .ok (l.drop 1) := taken_yes hask
    refine q_fail (b := decide (t.asks.length = 8)) rfl S (ev_is (ev_op (ev_len (ev_tabF T rfl S htb T.n_Table_questions (tabF_q _)) (sq_of TT.q)) ev_c (rv_eq rfl)) ?_) ev_c (fun hb => ?_) fun hb H1 e1 => ?_
    · rw [refs_len, hql]
      congr 1
      rw [Bool.eq_iff_iff, decide_eq_true_iff, decide_eq_true_iff, V.int.injEq]
      omega
    · refine (kF _ ?_).at
      have : t.asks.length = 8 := of_decide_eq_true hb
      unfold askOf
      rw [hw]
      exact if_pos (by show (8 : Nat) ≤ _; omega)
    have hlt : t.asks.length < 8 := by
      have : ¬ t.asks.length = 8 := of_decide_eq_false hb
      omega
    have hao : askOf t l = (takeAskG t.cols (l.drop 1)).bind fun g => restAsk g.1 g.2 := by
      unfold askOf
      rw [hw]
      show (if _ then _ else _) = _
      rw [if_neg (by show ¬ (8 : Nat) ≤ _; omega), takeAsk_eq]
    rw [hao] at kF kR
    refine q_take rfl (S.ex e1) kv_ask ev_c ev_c (fun hn => ?_) fun hn H2 S2 f2 => ?_
    · rw [show VamvsBase.next (.name (VamvsBase.word "ask")) l = true from hask] at hn
      cases hn
    have f12 : FrL g.muts H H2 := (FrL.ex e1).trans f2
    refine q_asgU2 (x := .int 0) (v := .int 1) (eu_tup (ea_cons ev_c (ea_cons ev_c ea_nil)) (by show (2 : Nat) ≤ 100000; decide)) fun H3 e3 => ?_
    have S3 := S2.ex e3
    have f13 := f12.trans (FrL.ex e3)
    -- what stands behind the question's columns
    have rest : ∀ (gr : Nat) (l2 : Toks) (H4 : Hp) (D : Ends), PSt a H4 g l2 t → FrL g.muts H H4 → gr < 2 ^ t.cols.length → (takeAskG t.cols (l.drop 1)).bind (fun g => restAsk g.1 g.2) = restAsk gr l2 → (D.nx = fun _ H' => Q .non H') →
        tSeq (tIfS (tB (tGM a.c_Parser "passes" (sp_passes a) (fun _ => E0) (tVar 0) (tCons (tC (.str "word")) (tCons (tC (.str "times")) tNil)))) (tAsg (tGM a.c_Parser "take_number" (sp_take_number a) (fun _ => E) (tVar 0) (tCons (tC (.int 1)) (tCons (tC (.int 99)) tNil))) (gName 2)) tNext)
          (tSeq (tDrop (tGM a.c_Parser "take" (sp_take a) (fun _ => E) (tVar 0) (tCons (tC (.str "sign")) (tCons (tC (.str ";")) tNil))))
            (tDrop (tBM K "list" rAppend (tFld K (tFld K (tVar 0) "table") "questions") (tCons (tTup (tCons (tVar 1) (tCons (tVar 2) tNil))) tNil)))) D [some (.ref g.pa), some (.int (gr : Nat)), some (.int 1)] H4 := by
      intro gr l2 H4 D S4 f4 hgr hres hD
      rw [hres] at kF kR
      -- once the number is there
      have last : ∀ (k : Nat) (l3 : Toks) (H5 : Hp), PSt a H5 g l3 t → FrL g.muts H H5 → restAsk gr l2 = ((VamvsBase.takeSign 59 l3).map fun m => ((⟨gr, k⟩ : Vamvsa.Ask), m)) →
          tSeq (tDrop (tGM a.c_Parser "take" (sp_take a) (fun _ => E) (tVar 0) (tCons (tC (.str "sign")) (tCons (tC (.str ";")) tNil))))
            (tDrop (tBM K "list" rAppend (tFld K (tFld K (tVar 0) "table") "questions") (tCons (tTup (tCons (tVar 1) (tCons (tVar 2) tNil))) tNil))) D [some (.ref g.pa), some (.int (gr : Nat)), some (.int (k : Nat))] H5 := by
        intro k l3 H5 S5 f5 hres2
        rw [hres2] at kF kR
        refine q_take rfl S5 kv_semi ev_c ev_c (fun hn => ?_) fun hn H6 S6 f6 => ?_
        · refine FaultAt.toM (kF _ ?_) f5
          rw [show VamvsBase.takeSign 59 l3 = .error ⟨3, VamvsBase.here l3⟩ from taken_no hn]
          rfl
        obtain ⟨ns6, rs6, qs6, TT6⟩ := S6.tab
        obtain ⟨dy6, htb6⟩ := TT6.tb
        have hq6 : qs6.length = t.asks.length := prs_len TT6.qs
        refine s_appU (K := K) TT6.q (ev_tabF T rfl S6 htb6 T.n_Table_questions (tabF_q _)) (eu_tup (ea_cons (ev_var rfl) (ea_cons (ev_var rfl) ea_nil)) (by show (2 : Nat) ≤ 100000; decide)) (by rw [refs_len, hq6]; omega) fun p H7 hp e7 h7 => ?_
        rw [hD]
        refine kR ⟨gr, k⟩ (l3.drop 1) ?_ _ ((S6.ex e7).upQ (e7 _ _ TT6.q) (prs_imp (fun _ _ q => e7 _ _ q) TT6.qs) h7) (((f5.trans f6).trans (FrL.ex e7)).trans (FrL.up mem_q))
        rw [show VamvsBase.takeSign 59 l3 = .ok (l3.drop 1) from taken_yes hn]
        rfl
      refine q_whenR (m_passes rfl S4 kv_times ev_c ev_c fun H5 S5 f5 => ⟨_, rfl, ?_⟩)
      have f45 := f4.trans f5
      cases hc : VamvsBase.next (.name (VamvsBase.word "times")) l2 with
      | true =>
        refine if_t rfl ?_
        rw [hc, if_pos rfl] at S5
        have hr2 : restAsk gr l2 = (takeNum 1 99 (l2.drop 1)).bind fun k => (VamvsBase.takeSign 59 k.2).map fun m => ((⟨gr, k.1⟩ : Vamvsa.Ask), m) := by
          unfold restAsk
          rw [takeTimes_eq, if_pos (show VamvsBase.nextWord "times" l2 = true from hc)]
        refine s_asgR (m_number (low := 1) (high := 99) rfl S5 ev_c ev_c (fun f z => ?_) fun n l3 z H6 S6 f6 => ?_)
        · refine FaultAt.toM (kF f ?_) f45
          rw [hr2, z]
          rfl
        · refine last n l3 H6 S6 (f45.trans f6) ?_
          rw [hr2, z]
          rfl
      | false =>
        refine if_f rfl ?_
        rw [hc, if_neg (by decide)] at S5
        refine last 1 l2 H5 S5 f45 ?_
        unfold restAsk
        rw [takeTimes_eq, if_neg (show ¬ VamvsBase.nextWord "times" l2 = true from fun z => by rw [show VamvsBase.nextWord "times" l2 = false from hc] at z; cases z)]
        rfl
    obtain ⟨q, tk, r, hl, hq, dz, k1, v1, z1, z2⟩ := S3.here
    have hnm := isName_kind z2
    refine q_when (b := decide (V.str k1 = V.str "name")) (et_test (ev_op (ev_fld (ev_here rfl S3 hq) z1 T.cl_Token T.n_Token_kind (tkF_kind _ _ _)) ev_c (rv_eq rfl))) (fun hb H4 e4 => ?_) (fun hb H4 e4 => ?_)
    · -- columns are told
      obtain ⟨b, htk, hres⟩ := hnm.mp (V.str.inj (of_decide_eq_true hb))
      have hno : ¬ (VamvsBase.nextWord "times" (l.drop 1) = true ∨ VamvsBase.next (.sign 59) (l.drop 1) = true) := by
        rw [hl]
        show ¬ (VamvsBase.tokEq tk.tok (.name (VamvsBase.word "times")) = true ∨ VamvsBase.tokEq tk.tok (.sign 59) = true)
        rw [htk]
        rintro (z | z)
        · have z : (b == VamvsBase.word "times") = true := z
          rw [beq_iff_eq.mp z] at hres
          exact absurd hres (by decide +kernel)
        · cases z
      have hG : takeAskG t.cols (l.drop 1) = (takeGrp t.cols 0 (l.drop 1)).bind fun x => takeGrpC t.cols (l.drop 1).length x.1 x.2 := by rw [askG_eq, if_neg hno]
      have S4 := S3.ex e4
      have f14 := f13.trans (FrL.ex e4)
      refine q_asgR (m_group (gr := 0) rfl S4 h4 (by decide) (ev_var rfl) (fun f z => ?_) fun n l2 z H5 S5 f5 => ?_)
      · refine FaultAt.toM (kF f ?_) f14
        rw [hG, z]
        rfl
      have hn1 := grp_lt h4 (Nat.two_pow_pos _) z
      obtain ⟨p0, b0, i0, hl2, _⟩ := takeGrp_ok z
      have hl2' : l2.length < (l.drop 1).length := by rw [hl2]; exact Nat.lt_succ_self _
      have f15 := f14.trans f5
      have hX : (takeAskG t.cols (l.drop 1)).bind (fun g => restAsk g.1 g.2) = (takeGrpC t.cols (l.drop 1).length n l2).bind fun g => restAsk g.1 g.2 := by rw [hG, z]; rfl
      refine ⟨fun m σ' H' => ∃ (gr : Nat) (l3 : Toks), σ' = [some (.ref g.pa), some (.int (gr : Nat)), some (.int 1)] ∧ PSt a H' g l3 t ∧ FrL g.muts H H' ∧ gr < 2 ^ t.cols.length ∧ (takeAskG t.cols (l.drop 1)).bind (fun g => restAsk g.1 g.2) = ((takeGrpC t.cols (l3.length + 1) gr l3).bind fun g => restAsk g.1 g.2) ∧ m = l3.length,
        ⟨l2.length, n, l2, rfl, S5, f15, hn1, by rw [hX, takeGrpC_fuel n hl2' (Nat.lt_succ_self _)], rfl⟩, ?_⟩
      rintro m σ' H' ⟨gr, l3, rfl, S6, f6, hgr, hres3, rfl⟩
      refine m_passes rfl S6 kv_comma ev_c ev_c fun H7 S7 f7 => ⟨_, rfl, ?_⟩
      have f67 := f6.trans f7
      cases hc : VamvsBase.next (.sign 44) l3 with
      | true =>
        refine if_t rfl ?_
        rw [hc, if_pos rfl] at S7
        have hd := next_len hc
        have hun : takeGrpC t.cols (l3.length + 1) gr l3 = (takeGrp t.cols gr (l3.drop 1)).bind fun x => takeGrpC t.cols l3.length x.1 x.2 := by
          unfold takeGrpC
          rw [if_pos hc, takeAsked_succ]
          rfl
        refine ⟨fun σ2 H2 => ∃ (gr' : Nat) (l4 : Toks), σ2 = [some (.ref g.pa), some (.int (gr' : Nat)), some (.int 1)] ∧ PSt a H2 g l4 t ∧ FrL g.muts H H2 ∧ gr' < 2 ^ t.cols.length ∧ (takeAskG t.cols (l.drop 1)).bind (fun g => restAsk g.1 g.2) = ((takeGrpC t.cols (l4.length + 1) gr' l4).bind fun g => restAsk g.1 g.2) ∧ l4.length < l3.length, ?_, ?_⟩
        · rintro σ2 H2 ⟨gr', l4, rfl, q1, q2, q3, q4, q5⟩
          exact ⟨l4.length, q5, gr', l4, rfl, q1, q2, q3, q4, rfl⟩
        · refine s_asgR (m_group rfl S7 h4 (pow2_lt h4 hgr) (ev_var rfl) (fun f z => ?_) fun n' l4 z H8 S8 f8 => ?_)
          · refine FaultAt.toM (kF f ?_) f67
            rw [hres3, hun, z]
            rfl
          · obtain ⟨p1, b1, i1, hl4, _⟩ := takeGrp_ok z
            have hl4' : l4.length < (l3.drop 1).length := by rw [hl4]; exact Nat.lt_succ_self _
            refine ⟨n', l4, rfl, S8, f67.trans f8, grp_lt h4 hgr z, ?_, by omega⟩
            rw [hres3, hun, z]
            show Except.bind (takeGrpC t.cols l3.length n' l4) _ = _
            rw [takeGrpC_fuel n' (Nat.lt_trans hl4' hd) (Nat.lt_succ_self _)]
      | false =>
        refine if_f rfl ?_
        rw [hc, if_neg (by decide)] at S7
        refine rest gr l3 H7 _ S7 f67 hgr ?_ rfl
        rw [hres3]
        unfold takeGrpC
        rw [if_neg (by rw [hc]; decide)]
        rfl
    · -- no columns
      refine rest 0 (l.drop 1) H4 _ (S3.ex e4) (f13.trans (FrL.ex e4)) (Nat.two_pow_pos _) ?_ rfl
      rw [askG_eq]
      by_cases hc : VamvsBase.nextWord "times" (l.drop 1) = true ∨ VamvsBase.next (.sign 59) (l.drop 1) = true
      · rw [if_pos hc]
        rfl
      · rw [if_neg hc]
        have hk : k1 ≠ "name" := fun e => by
          rw [e, decide_eq_true rfl] at hb
          cases hb
        obtain ⟨pl, tok⟩ := tk
        have hg : takeGrp t.cols 0 (l.drop 1) = .error ⟨3, pl⟩ := by
          rw [hl]
          unfold takeGrp
          rw [notName z2 hk]
          rfl
        rw [hg]
        unfold restAsk
        rw [takeTimes_eq, if_neg fun z => hc (.inl z)]
        show _ = Except.map _ (VamvsBase.takeSign 59 (l.drop 1))
        rw [show VamvsBase.takeSign 59 (l.drop 1) = .error ⟨3, VamvsBase.here (l.drop 1)⟩ from if_neg fun z => hc (.inr z), hl]
        rfl
end
end BA

namespace BA
open PySem PySem.Spec PyProof.Rows L2 Evl
open VamvsBase (Bytes Fault PTok Toks RESERVED)
open Vamvsa (takeColumns takeNat takeValues takeInt takeAsked takeTimes takeAsk takeLines)

theorem lex_last : ∀ (n at_ : Nat) (l : Bytes) (ts : Toks), VamvsBase.lex n at_ l = .ok ts → LastOk ts
  | 0, at_, l, ts, h => by cases h; exact .one _
  | n + 1, at_, [], ts, h => by cases h; exact .one _
  | n + 1, at_, b :: r, ts, h => by
    rw [VamvsBase.lex] at h
    split at h
    · exact lex_last _ _ _ _ h
    · split at h
      · exact lex_last _ _ _ _ h
      · cases e : VamvsBase.token (b :: r) with
        | none => rw [e] at h; cases h
        | some x =>
          rw [e] at h
          have h : (VamvsBase.lex n (at_ + x.2) ((b :: r).drop x.2)).map (fun l => (⟨at_, x.1⟩ : PTok) :: l) = .ok ts := h
          cases e2 : VamvsBase.lex n (at_ + x.2) ((b :: r).drop x.2) with
          | error f => rw [e2] at h; cases h
          | ok ts' =>
            rw [e2] at h
            cases h
            refine .cons ?_ (lex_last _ _ _ _ e2)
            show x.1 ≠ .last
            intro z
            unfold VamvsBase.token at e
            simp only at e
            split at e
            · split at e
              · cases e
              · cases e; cases z
            · split at e
              · cases e3 : VamvsBase.numberOf (List.takeWhile VamvsBase.isDigit (b :: r)) with
                | none => rw [e3] at e; cases e
                | some k => rw [e3] at e; cases e; cases z
              · split at e
                · cases e; cases z
                · cases e
theorem takeColumns_ok : ∀ (n : Nat) (cs : List Bytes) (l : Toks) (x : List Bytes × Toks), takeColumns n cs l = .ok x → x.1.length ≤ 4 ∧ x.2.length < l.length
  | 0, _, _, _, h => by cases h
  | n + 1, cs, l, x, h => by
    rw [takeColumns_succ] at h
    cases e : takeCol cs l with
    | error f => rw [e] at h; cases h
    | ok y =>
      rw [e] at h
      obtain ⟨p, e1, _, e2, _⟩ := takeCol_ok e
      have hl : y.2.length < l.length := by rw [e1]; exact Nat.lt_succ_self _
      have h : takeColsC n (cs ++ [y.1]) y.2 = .ok x := h
      unfold takeColsC at h
      by_cases hc : VamvsBase.next (.sign 44) y.2 = true
      · rw [if_pos hc] at h
        have h1 := next_len hc
        obtain ⟨k1, k2⟩ := takeColumns_ok n _ _ _ h
        exact ⟨k1, by omega⟩
      · rw [if_neg hc] at h
        cases e3 : VamvsBase.takeSign 59 y.2 with
        | error f => rw [e3] at h; cases h
        | ok m =>
          rw [e3] at h
          cases h
          obtain ⟨n1, rfl⟩ := taken_ok e3
          have := next_len n1
          exact ⟨by rw [List.length_append, List.length_singleton]; omega, by show (y.2.drop 1).length < _; omega⟩
def readToks (l : Toks) : Except Fault Vamvsa.Table := (VamvsBase.takeWord "columns" l).bind fun r => (takeColumns (r.length + 1) [] r).bind fun x => takeLines (x.2.length + 1) ⟨x.1, [], []⟩ x.2
def colsOf (l : Toks) : Except Fault (List Bytes × Toks) := (VamvsBase.takeWord "columns" l).bind fun r => takeColumns (r.length + 1) [] r
theorem readToks_eq (l : Toks) : readToks l = (colsOf l).bind fun x => takeLines (x.2.length + 1) ⟨x.1, [], []⟩ x.2 := by
  unfold readToks colsOf
  cases VamvsBase.takeWord "columns" l <;> rfl
theorem read_eq (b : Bytes) : Vamvsa.read b = if 4096 < b.length then .error ⟨1, 4096⟩ else (VamvsBase.lex (b.length + 1) 0 b).bind readToks := by
  unfold Vamvsa.read VamvsBase.tokens readToks
  by_cases h : 4096 < b.length
  · rw [if_pos h, if_pos (show VamvsBase.TEXT < b.length from h)]
    rfl
  · rw [if_neg h, if_neg (show ¬ VamvsBase.TEXT < b.length from h)]
def sp_take_table (a : Ad) : Sp := fun vs H Q E => ∃ (g : PG_) (l : Toks), vs = [.ref g.pa] ∧ PSt a H g l emptyT ∧
  (∀ f, readToks l = .error f → FaultM a.c_Fault g H E f) ∧ (∀ t', readToks l = .ok t' → ∀ H' l', PSt a H' g l' t' → FrL g.muts H H' → Q .non H')
def sp_read_table (K : PySem.W.Frag) (a : Ad) : Sp := fun vs H Q E => ∃ (t : Addr) (b : Bytes), vs = [.ref t] ∧ SqL K H t (bv b) ∧ b.length ≤ 9000 ∧
  (∀ f, Vamvsa.read b = .error f → FaultAt a.c_Fault H E f) ∧ (∀ t', Vamvsa.read b = .ok t' → ∀ g H', Ex H H' → TabAt a.c_Table H' g t' → Q (.ref g.tb) H')
section
variable {P : Program} {w : World} {K : PySem.W.Frag} {mg : Str → Option Value} {base : Heap} {a : Ad} {H H' : Hp} {σ : L2.St} {g : PG_} {l : Toks} {t : Vamvsa.Table} {D : Ends} {tz : TS}
theorem ok_Parser_take_table (T : Txt K mg a) : Good P w K mg base 6 a.f_Parser_take_table ["self"] (sp_take_table a) := by
  obtain ⟨fd, F⟩ := T.F_Parser_take_table
  refine ⟨⟨fd, F.okX sc_Parser_take_table (fun vs H Q E h => ?_) (fun cdv A outer s H vs Q E hr h => ⟨_, (pss_cons (ps_expr (pe_gm0 (ok_Parser_take_columns T) (pv 0) T.cl_Parser T.me_Parser_take_columns (hr.mono (by decide)) (E := fun _ => E) (pxt (takes_of rfl rfl rfl rfl))))
    (pss_one (ps_while (passes_of rfl) (pt_cmpR op_ne (pe_fld (pe_gm0 (ok_Parser_here T) (pv 0) T.cl_Parser T.me_Parser_here (hr.mono (by decide)) (E := fun _ => E0) px0) rfl) (pe_gs rfl T.m_END) (nomark _))
      (pss_one (ps_if (pt_val (pe_gm (ok_Parser_comes T) (pv 0) T.cl_Parser T.me_Parser_comes (hr.mono (by decide)) (E := fun _ => E0) px0 (pa_cons (pe_gs rfl T.m_WORD) (pa_cons pe_str pa_nil))))
      (pss_one (ps_expr (pe_gm0 (ok_Parser_take_row T) (pv 0) T.cl_Parser T.me_Parser_take_row (hr.mono (by decide)) (E := fun _ => E) (pxt (takes_of rfl rfl rfl rfl)))))
      (pss_cons (ps_expr (pe_gm (ok_Parser_fail_if T) (pv 0) T.cl_Parser T.me_Parser_fail_if (hr.mono (by decide)) (E := fun _ => E) (pxt (takes_of rfl rfl rfl rfl)) (pa_cons (pe_not (pe_gm (ok_Parser_comes T) (pv 0) T.cl_Parser T.me_Parser_comes (hr.mono (by decide)) (E := fun _ => E0) px0 (pa_cons (pe_gs rfl T.m_WORD) (pa_cons pe_str pa_nil)))) (pa_cons (pe_gi rfl T.m_NOT_ALLOWED) pa_nil))))
    (pss_one (ps_expr (pe_gm0 (ok_Parser_take_question T) (pv 0) T.cl_Parser T.me_Parser_take_question (hr.mono (by decide)) (E := fun _ => E) (pxt (takes_of rfl rfl rfl rfl))))))))))), ?_⟩), F.binds fun _ _ _ _ _ _ us hl => match us, hl with | [_], _ => rfl⟩, T.k_Parser_take_table⟩
  · obtain ⟨g, l, rfl, _⟩ := h
    rfl
  · obtain ⟨g, l, rfl, S, kF, kR⟩ := h
    rw [readToks_eq] at kF kR
    refine q_dropR (gm_pa S rfl (by decide +kernel) (by decide +kernel) (by decide +kernel) ea_nil fun H1 e1 => ⟨g, l, rfl, S.ex e1, fun f z => ?_, fun cs l1 z H2 S2 f2 => ?_⟩)
    · refine (kF f ?_).go (FrL.ex e1)
      rw [show colsOf l = .error f from z]
      rfl
    have z : colsOf l = .ok (cs, l1) := z
    rw [z] at kF kR
    have h4 : cs.length ≤ 4 := by
      unfold colsOf at z
      cases e : VamvsBase.takeWord "columns" l with
      | error f => rw [e] at z; cases z
      | ok r =>
        rw [e] at z
        exact (takeColumns_ok _ _ _ _ z).1
    have f12 : FrL g.muts H H2 := (FrL.ex e1).trans f2
    refine ⟨fun m σ' H' => ∃ (t : Vamvsa.Table) (l2 : Toks), σ' = [some (.ref g.pa)] ∧ PSt a H' g l2 t ∧ FrL g.muts H H' ∧ t.cols.length ≤ 4 ∧ t.rows.length ≤ 16 ∧ t.asks.length ≤ 8 ∧ takeLines (l1.length + 1) ⟨cs, [], []⟩ l1 = takeLines (l2.length + 1) t l2 ∧ m = l2.length,
      ⟨l1.length, ⟨cs, [], []⟩, l1, rfl, S2, f12, h4, Nat.zero_le _, Nat.zero_le _, rfl, rfl⟩, ?_⟩
    rintro m σ' H' ⟨t, l2, rfl, S3, f3, h4, h16, h8, hres, rfl⟩
    have kF' : ∀ f, takeLines (l2.length + 1) t l2 = .error f → FaultM a.c_Fault g H E f := fun f z => kF f (hres.trans z)
    have kR' : ∀ t', takeLines (l2.length + 1) t l2 = .ok t' → ∀ H' l', PSt a H' g l' t' → FrL g.muts H H' → Q .non H' := fun t' z => kR t' (hres.trans z)
    obtain ⟨q, tk, r, hl, hq, dz, k1, v1, z1, z2⟩ := S3.here
    have hend : (!decide (V.str k1 = V.str "end")) = !VamvsBase.next .last l2 := by
      rw [hl]
      obtain ⟨pl, tok⟩ := tk
      show _ = !VamvsBase.tokEq tok .last
      cases z2 with
      | last => exact congrArg _ (decide_eq_true rfl)
      | name _ _ => exact congrArg _ (decide_eq_false (by intro w; exact absurd (V.str.inj w) (by decide +kernel)))
      | word _ => exact congrArg _ (decide_eq_false (by intro w; exact absurd (V.str.inj w) (by decide +kernel)))
      | num _ => exact congrArg _ (decide_eq_false (by intro w; exact absurd (V.str.inj w) (by decide +kernel)))
      | sign _ => exact congrArg _ (decide_eq_false (by intro w; exact absurd (V.str.inj w) (by decide +kernel)))
    refine (et_is (et_test (ev_op (ev_fld (ev_here (a := a) (E := fun _ => E0) (t := t) rfl S3 hq) z1 T.cl_Token T.n_Token_kind (tkF_kind _ _ _)) (ev_c (v := .str "end")) (rv_ne rfl))) hend) H' (Ex.refl _) _ fun H4 e4 => ?_
    have S4 := S3.ex e4
    have f4 := f3.trans (FrL.ex e4)
    cases hc : VamvsBase.next .last l2 with
    | true =>
      refine if_f rfl (kR' t ?_ H4 l2 S4 f4)
      rw [takeLines_succ, if_pos hc]
    | false =>
      refine if_t rfl ⟨fun σ2 H2 => ∃ (t' : Vamvsa.Table) (l3 : Toks), σ2 = [some (.ref g.pa)] ∧ PSt a H2 g l3 t' ∧ FrL g.muts H H2 ∧ t'.cols.length ≤ 4 ∧ t'.rows.length ≤ 16 ∧ t'.asks.length ≤ 8 ∧ takeLines (l1.length + 1) ⟨cs, [], []⟩ l1 = takeLines (l3.length + 1) t' l3 ∧ l3.length < l2.length, ?_, ?_⟩
      · rintro σ2 H2 ⟨t', l3, rfl, q1, q2, q3, q4, q5, q6, q7⟩
        exact ⟨l3.length, q7, t', l3, rfl, q1, q2, q3, q4, q5, q6, rfl⟩
      have hun := takeLines_succ l2.length t l2
      rw [if_neg (by rw [hc]; decide)] at hun
      refine s_if (et_B (ev_comes rfl S4 kv_row ev_c ev_c)) (fun hb H5 e5 => ?_) (fun hb H5 e5 => ?_)
      · rw [if_pos (show VamvsBase.nextWord "row" l2 = true from hb)] at hun
        rw [hun] at kF' kR'
        have S5 := S4.ex e5
        have f5 := f4.trans (FrL.ex e5)
        refine s_dropR (gm_pa S5 rfl (by decide +kernel) (by decide +kernel) (by decide +kernel) ea_nil fun H6 e6 => ⟨g, l2, t, rfl, S5.ex e6, h4, h16, hb, fun f z => ?_, fun x l3 z H7 S7 f7 => ?_⟩)
        · refine (kF' f ?_).go (f5.trans (FrL.ex e6))
          rw [z]
          rfl
        · obtain ⟨j1, j2, _⟩ := rowOf_ok z
          refine ⟨_, l3, rfl, S7, (f5.trans (FrL.ex e6)).trans f7, h4, ?_, h8, ?_, j1⟩
          · show (t.rows ++ [x]).length ≤ 16
            rw [List.length_append, List.length_singleton]
            omega
          · rw [hres, hun, z]
            exact takeLines_fuel _ _ (Nat.le_refl _) _ _ _ j1 (Nat.lt_succ_self _)
      · rw [if_neg (show ¬ VamvsBase.nextWord "row" l2 = true from fun z => by rw [show VamvsBase.nextWord "row" l2 = false from hb] at z; cases z)] at hun
        rw [hun] at kF' kR'
        have S5 := S4.ex e5
        have f5 := f4.trans (FrL.ex e5)
        refine q_fail rfl S5 (ev_notV (ev_comes rfl S5 kv_ask ev_c ev_c)) ev_c (fun hb2 => ?_) fun hb2 H6 e6 => ?_
        · have hn : VamvsBase.next (.name (VamvsBase.word "ask")) l2 = false := by simpa using hb2
          refine FaultAt.toM (kF' _ ?_) f5
          unfold askOf
          rw [show VamvsBase.takeWord "ask" l2 = .error ⟨3, VamvsBase.here l2⟩ from taken_no hn]
          rfl
        have hn : VamvsBase.next (.name (VamvsBase.word "ask")) l2 = true := by simpa using hb2
        have S6 := S5.ex e6
        have f6 := f5.trans (FrL.ex e6)
        refine s_dropR (gm_pa S6 rfl (by decide +kernel) (by decide +kernel) (by decide +kernel) ea_nil fun H7 e7 => ⟨g, l2, t, rfl, S6.ex e7, h4, h8, hn, fun f z => ?_, fun x l3 z H8 S8 f8 => ?_⟩)
        · refine (kF' f ?_).go (f6.trans (FrL.ex e7))
          rw [z]
          rfl
        · obtain ⟨j1, j2, _⟩ := askOf_ok z
          refine ⟨_, l3, rfl, S8, (f6.trans (FrL.ex e7)).trans f8, h4, h16, ?_, ?_, j1⟩
          · show (t.asks ++ [x]).length ≤ 8
            rw [List.length_append, List.length_singleton]
            omega
          · rw [hres, hun, z]
            exact takeLines_fuel _ _ (Nat.le_refl _) _ _ _ j1 (Nat.lt_succ_self _)
theorem ok_read_table (T : Txt K mg a) : Good P w K mg base 7 a.f_read_table ["text"] (sp_read_table K a) := by
  obtain ⟨fd, F⟩ := T.F_read_table
  refine ⟨⟨fd, F.okX sc_read_table (fun vs H Q E h => ?_) (fun cdv A outer s H vs Q E hr h => ⟨_, (pss_cons (ps_if (pt_cmpR op_gt (pe_callB call_len_seq (by rfl) T.b_len (by decide +kernel) (pa_cons (pv 0) pa_nil)) (pe_gi rfl T.m_MOST_BYTES) (nomark _))
      (pss_one (ps_raiseFault rfl T.x_Fault (hr.mono (by decide)) (takes_of rfl rfl rfl rfl) (pa_cons (pe_gi rfl T.m_TOO_LONG) (pa_cons (pe_gi rfl T.m_MOST_BYTES) pa_nil))))
      pss_nil)
    (pss_cons (ps_set (i := 1) sc_read_table.nd rfl (Or.inl rfl) (pe_gc (ok_Parser_init T) T.mk_Parser (hr.mono (by decide)) rfl T.m_Parser (pa_cons (pe_g (ok_tokens_of T) (hr.mono (by decide)) rfl T.m_tokens_of (E := fun _ => E) (pxt (takes_of rfl rfl rfl rfl)) (pa_cons (pv 0) pa_nil)) pa_nil)))
    (pss_cons (ps_expr (pe_gm0 (ok_Parser_take_table T) (pv 1) T.cl_Parser T.me_Parser_take_table (hr.mono (by decide)) (E := fun _ => E) (pxt (takes_of rfl rfl rfl rfl))))
    (pss_one (ps_ret (pe_fld (pv 1) rfl)))))), ?_⟩), F.binds fun _ _ _ _ _ _ us hl => match us, hl with | [_], _ => rfl⟩, T.k_read_table⟩
  · obtain ⟨t, b, rfl, _⟩ := h
    rfl
  · obtain ⟨t, b, rfl, hx, hz, kF, kR⟩ := h
    rw [read_eq] at kF kR
    refine q_when (b := decide (4096 < b.length)) (et_is (et_test (ev_op (ev_len (ev_var rfl) hx) ev_c rv_I0)) ?_) (fun hb H1 e1 => ?_) (fun hb H1 e1 => ?_)
    · rw [bv_len, Bool.eq_iff_iff, decide_eq_true_iff, decide_eq_true_iff]
      omega
    · exact s_raiseF (c := 1) (p := 4096) (ea_cons ev_c (ea_cons ev_c ea_nil)) ((kF _ (if_pos (of_decide_eq_true hb))).go e1)
    rw [if_neg (of_decide_eq_false hb)] at kF kR
    refine q_asgR ?_
    refine ⟨_, rfl, t, b, rfl, ex_l e1 hx, hz, fun f z => ?_, fun ts z ta H2 ks hta e2 h2 hk hkl => ?_⟩
    · refine (kF f ?_).go e1
      rw [z]
      rfl
    rw [z] at kF kR
    intro x dx hx0 hdx hne
    have e3 : Ex H2 (upd (upd H2 dx (.own x)) x (.ins a.c_Parser dx [])) := Ex.mut (Ex.new hdx) hx0
    refine ⟨x, dx, ta, rfl, upd_same, fun H4 tb c r q htb hc hr hq n1 n2 n3 hp TT f4 => ⟨rfl, ?_⟩⟩
    have e12 := e1.trans e2
    have o2 : ∀ b o, H2 b = some o → H4 b = some o := fun b o hb => f4 b o (e3 b o hb) (by simpa using ne_of_none hb hx0)
    have fr : ∀ {v : Addr}, upd (upd H2 dx (.own x)) x (.ins a.c_Parser dx []) v = none → H2 v = none := fun hv => fresh_back e3 hv
    have S : PSt a H4 ⟨x, ta, ks, ts, tb, c, r, q⟩ ts emptyT := ⟨⟨dx, [], rfl, hp⟩, o2 _ _ h2, hk.ex o2, lex_last _ _ _ _ z, ⟨[], [], [], TT⟩, n1, n2, n3, ne_of_none h2 (fr hc), ne_of_none h2 (fr hr), ne_of_none h2 (fr hq)⟩
    have fin : ∀ H5, FrL [x, c, r, q] H4 H5 → Ex H H5 := fun H5 f5 => ((FrL.ex (e12.trans o2)).trans (l := [x, c, r, q]) f5).new fun v hv => by
      have h0 : ∀ {v : Addr}, H2 v = none → H v = none := fun hv => fresh_back e12 hv
      rcases List.mem_cons.mp hv with rfl | hv
      · exact h0 hx0
      rcases List.mem_cons.mp hv with rfl | hv
      · exact h0 (fr hc)
      rcases List.mem_cons.mp hv with rfl | hv
      · exact h0 (fr hr)
      · have : v = q := by simpa using hv
        rw [this]
        exact h0 (fr hq)
    refine q_dropR ⟨.ref x, rfl, x, dx, _, rfl, hp, parF_none ⟨x, ta, ks, ts, tb, c, r, q⟩ 0 (by decide +kernel) (by decide +kernel) (by decide +kernel), ?_⟩
    refine ⟨⟨x, ta, ks, ts, tb, c, r, q⟩, ts, rfl, S, fun f z2 => ?_, fun t' z2 H5 l' S5 f5 => ?_⟩
    · exact fun d H6 f6 hd => kF f z2 d H6 (fin H6 f6) hd
    · obtain ⟨dx5, l5, _, hp5⟩ := S5.pa
      obtain ⟨ns5, rs5, qs5, TT5⟩ := S5.tab
      refine s_ret (ev_fld (ev_var rfl) hp5 T.cl_Parser T.n_Parser_table (parF_table _ _)) fun H6 e6 => ?_
      exact kR t' z2 ⟨tb, c, r, q, ns5, rs5, qs5⟩ H6 ((fin H5 f5).trans e6) (TT5.ex e6)
end
end BA

namespace BA
open PySem PySem.Spec PyProof.Rows L2 Evl
open VamvsBase (Bytes word joined showNat showInt)
open Vamvsa (columnsOf showRow showAsk shown)

/-! ### how numbers are written -/
theorem codes_nat {n : Nat} (h : n ≤ 1000) : codes (toString (n : Int) : Str) = bv (showNat n) := by
  have : ∀ n : Fin 1001, codes (toString ((n.1 : Nat) : Int) : Str) = bv (showNat n.1) := by decide +kernel
  exact this ⟨n, by omega⟩
theorem codes_int {m : Int} (h : m.natAbs ≤ 1000) : codes (toString m : Str) = bv (showInt m) := by
  have h1 : ∀ n : Fin 1001, codes (toString (-((n.1 : Nat) : Int)) : Str) = bv (showInt (-((n.1 : Nat) : Int))) := by decide +kernel
  have h2 : ∀ n : Fin 1001, codes (toString ((n.1 : Nat) : Int) : Str) = bv (showInt ((n.1 : Nat) : Int)) := by decide +kernel
  rcases Int.natAbs_eq m with e | e
  · rw [e]
    exact h2 ⟨m.natAbs, by omega⟩
  · rw [e]
    exact h1 ⟨m.natAbs, by omega⟩
theorem codes_app (u w : Str) : codes (u ++ w) = codes u ++ codes w := by
  unfold codes
  rw [← List.map_append]
  congr 1
  show (u.cps ++ w.cps).toList = _
  simp
theorem codes_len (z : Str) : (codes z).length = z.length := by simp [codes, Str.length]
theorem nat_len {n : Nat} (h : n ≤ 1000) : (showNat n).length ≤ 4 := by
  have : ∀ n : Fin 1001, (showNat n.1).length ≤ 4 := by decide +kernel
  exact this ⟨n, by omega⟩
theorem int_len {m : Int} (h : m.natAbs ≤ 1000) : (showInt m).length ≤ 5 := by
  have e := nat_len h
  unfold showInt
  split
  · rw [List.length_cons]; omega
  · omega
theorem log_small {i : Int} (h : i.natAbs ≤ 1000) : i.natAbs.log2 < 1920 := by
  have : i.natAbs.log2 ≤ i.natAbs := Nat.log2_le_self _
  omega

end BA

namespace BA
open PySem PySem.Spec PyProof.Rows L2 Evl
open VamvsBase (Bytes word joined showNat showInt)
open Vamvsa (columnsOf showRow showAsk shown)

def sp_with_commas (K : PySem.W.Frag) : Sp := fun vs H Q _ => ∃ (p : Addr) (qs : List Addr) (ls : List Bytes), vs = [.ref p] ∧ SqL K H p (refs qs) ∧ NamL H qs ls ∧ ls.length ≤ 4 ∧ (∀ b ∈ ls, b.length ≤ 16) ∧ RetL (bv (joined comma ls)) H Q
def sp_line_of (K : PySem.W.Frag) : Sp := fun vs H Q _ => ∃ (z z2 : Str) (p : Addr) (qs : List Addr) (ls : List Bytes) (bz b2 : Bytes), vs = [.str z, .ref p, .str z2] ∧ SqL K H p (refs qs) ∧ NamL H qs ls ∧ ls.length ≤ 4 ∧ (∀ b ∈ ls, b.length ≤ 16) ∧
  codes z = bv bz ∧ codes z2 = bv b2 ∧ bz.length ≤ 10 ∧ b2.length ≤ 12 ∧ RetL (bv (lineB bz ls b2)) H Q
def sp_columns_in (a : Ad) : Sp := fun vs H Q _ => ∃ (g : TG_) (t : Vamvsa.Table) (gr : Nat), vs = [.ref g.tb, .int (gr : Nat)] ∧ TabAt a.c_Table H g t ∧ t.cols.length ≤ 4 ∧ gr < 16 ∧ RetL (refs ((columnsOf t.cols.length gr).map fun k => g.ns.getD k 0)) H Q
def sp_one_form (a : Ad) : Sp := fun vs H Q _ => ∃ (g : TG_) (t : Vamvsa.Table), vs = [.ref g.tb] ∧ TabAt a.c_Table H g t ∧ Wf t ∧ ((shown t).length ≤ 9000 → RetL (bv (shown t)) H Q)
section
variable {P : Program} {w : World} {K : PySem.W.Frag} {mg : Str → Option Value} {base : Heap} {a : Ad} {H H' : Hp} {σ : L2.St} {D : Ends} {tz : TS} {ta te : TE}
theorem el_signs {z : Str} {bz : Bytes} {E : L2.St → XK} (h : Ev ta σ H (.str z)) (hz : z.length ≤ 40000) (e : codes z = bv bz) : EvL (tCB (rListS K) (tCons (tG sp_signs_of E (tCons ta tNil)) tNil)) σ H (bv bz) := by
  rw [← e]
  exact el_listU (eu_signs h hz)
theorem ok_with_commas (T : Txt K mg a) : Good P w K mg base 2 a.f_with_commas ["rows"] (sp_with_commas K) := by
  obtain ⟨fd, F⟩ := T.F_with_commas
  refine ⟨⟨fd, F.okX sc_with_commas (fun vs H Q E h => ?_) (fun cdv A outer s H vs Q E hr h => ⟨_, (pss_cons (ps_set (i := 1) sc_with_commas.nd rfl (Or.inl rfl) (pe_lst pa_nil))
    (pss_cons (ps_for (passes_of rfl) rfl (pi_enum (by rfl) T.b_enumerate (pa_cons (pv 0) pa_nil)) (pg_tup rfl (pgs_cons (pg_name (i := 2) sc_with_commas.nd rfl (Or.inl rfl)) (pgs_cons (pg_name (i := 3) sc_with_commas.nd rfl (Or.inl rfl)) pgs_nil)))
      (pss_cons (ps_if (pt_cmpR op_gt (pv 2) pe_int (nomark _))
      (pss_one (ps_expr (pe_bm PySem.F.plainAttrs_list PySem.F.slot_list_extend PySem.F.type_list_extend mt_extend (pv 1) (pa_cons (pe_callTy call_list_of (by rfl) T.b_list (by decide +kernel) (pa_cons (pe_g (ok_signs_of T) (hr.mono (by decide)) rfl T.m_signs_of (E := fun _ => E0) px0 (pa_cons pe_str pa_nil)) pa_nil)) pa_nil))))
      pss_nil)
    (pss_one (ps_expr (pe_bm PySem.F.plainAttrs_list PySem.F.slot_list_extend PySem.F.type_list_extend mt_extend (pv 1) (pa_cons (pe_callTy call_list_of (by rfl) T.b_list (by decide +kernel) (pa_cons (pv 3) pa_nil)) pa_nil))))))
    (pss_one (ps_ret (pv 1))))), ?_⟩), F.binds fun _ _ _ _ _ _ us hl => match us, hl with | [_], _ => rfl⟩, T.k_with_commas⟩
  · obtain ⟨p, qs, ls, rfl, _⟩ := h
    rfl
  · obtain ⟨p, qs, ls, rfl, hp, hn, h4, h16, k⟩ := h
    have hql : qs.length = ls.length := prs_len hn
    refine q_asgL (el_lst ea_nil (by decide)) fun f H1 hf e1 h1 => ?_
    refine q_forE (ev_var rfl) (ex_l e1 hp) (fun i σ' H' => ∃ x y, σ' = [some (.ref p), some (.ref f), x, y] ∧ Ex H H' ∧ H' f = some (.lst (bv (joined comma (ls.take i)))))
      (fun H2 e2 => ⟨none, none, rfl, e1.trans e2, e2 _ _ h1⟩) (fun _ _ _ _ ⟨_, _, _, e, _⟩ => ex_l e hp) (fun i x σ' H' H2 hi ⟨x0, y0, hσ, e, hl⟩ e2 => ?_) (fun σ' H' ⟨x0, y0, hσ, e, hl⟩ => ?_)
    · subst hσ
      unfold refs at hi
      rw [List.getElem?_map] at hi
      cases hq : qs[i]? with
      | none => rw [hq] at hi; cases hi
      | some q =>
        rw [hq] at hi
        cases hi
        obtain ⟨b, hb, hbt⟩ := prs_getL hn hq
        have hil := (List.getElem?_eq_some_iff.mp hb).1
        have hlen : ∀ n, (bv (joined comma (ls.take n))).length ≤ 72 := fun n => by
          have h1 := joined_len (ls.take n) fun b hb => h16 b (List.mem_of_mem_take hb)
          have h2 : (ls.take n).length ≤ 4 := by rw [List.length_take]; omega
          rw [bv_len]
          omega
        have hl2 := e2 _ _ hl
        have hl0 := hlen i
        have hbl := h16 b (List.mem_of_getElem? hb)
        -- the row's own part
        have last : ∀ (pre : List V) (H3 : Hp) (D : Ends), Ex H H3 → H3 f = some (.lst pre) → pre.length ≤ 80 → pre ++ bv b = bv (joined comma (ls.take (i + 1))) → (∀ σ2 H2, (∃ x y, σ2 = [some (.ref p), some (.ref f), x, y] ∧ Ex H H2 ∧ H2 f = some (.lst (bv (joined comma (ls.take (i + 1)))))) → D.nx σ2 H2) →
            tDrop (tBM K "list" rExtend (tVar 1) (tCons (tCB (rListS K) (tCons (tVar 3) tNil)) tNil)) D [some (.ref p), some (.ref f), some (.int (i : Nat)), some (.ref q)] H3 := by
          intro pre H3 D e3 h3 hpl heq hD
          refine s_ext h3 (ev_var rfl) (el_listT (ev_var rfl) (st_of (e3 _ _ hbt))) (by rw [bv_len]; omega) fun H4 e4 => hD _ _ ⟨_, _, rfl, Ex.mut (e3.trans e4) hf, ?_⟩
          rw [upd_same, heq]
        refine q_when (b := decide (0 < i)) (et_is (et_test (ev_op (ev_var rfl) ev_c rv_I0)) ?_) (fun hb0 H3 e3 => ?_) (fun hb0 H3 e3 => ?_)
        · rw [Bool.eq_iff_iff, decide_eq_true_iff, decide_eq_true_iff]
          omega
        · have h0 : 0 < i := of_decide_eq_true hb0
          have hc : codes ", " = bv comma := by decide +kernel
          have hcl : comma.length = 2 := by decide +kernel
          refine s_ext (e3 _ _ hl2) (ev_var rfl) (el_signs ev_c (by decide) hc) (by rw [bv_len comma]; omega) fun H4 e4 => ?_
          refine last _ _ _ (Ex.mut (((e.trans e2).trans e3).trans e4) hf) upd_same (by rw [List.length_append, bv_len comma]; omega) ?_ fun _ _ z => z
          have hne : ls.take i ≠ [] := by
            intro z
            have := congrArg List.length z
            rw [List.length_take, List.length_nil] at this
            omega
          rw [List.take_succ, hb, show (some b).toList = [b] from rfl, joined_snoc, if_neg hne, bv_app, bv_app, List.append_assoc]
        · have h0 : i = 0 := by
            have : ¬ 0 < i := of_decide_eq_false hb0
            omega
          refine last _ _ _ ((e.trans e2).trans e3) (e3 _ _ hl2) (by omega) ?_ fun _ _ z => z
          rw [List.take_succ, hb, show (some b).toList = [b] from rfl, h0]
          rfl
    · subst hσ
      rw [refs_len, hql, List.take_length] at hl
      exact s_ret (ev_var rfl) fun H2 e2 => k f H2 hf (e.trans e2) (e2 _ _ hl)
theorem rv_neNames {p r : Addr} {qs : List Addr} {ls : List Bytes} (hp : SqL K H p (refs qs)) (hn : NamL H qs ls) (hr : H r = some (.lst [])) : RV (rNeD K) (.ref p) (.ref r) H (.bl (decide (ls ≠ []))) := fun H1 e Q k =>
  ⟨_, .list [], .lst (ex_l e hp) (dpAll_names (hn.ex e)), .lst (SqL.of (e _ _ hr)) .nil, shaped_names ls, by decide +kernel, by
    have : (!PyData.eqv (.list (ls.map fun c => PyData.tuple ((bi c).map PyData.int))) (.list [])) = decide (ls ≠ []) := by
      cases ls with
      | nil => simp [PyData.eqv, PyData.eqvAll]
      | cons a r => simp [PyData.eqv, PyData.eqvAll]
    rw [this]
    exact k H1 (Ex.refl _)⟩
theorem ok_line_of (T : Txt K mg a) : Good P w K mg base 3 a.f_line_of ["word", "parts", "rest"] (sp_line_of K) := by
  obtain ⟨fd, F⟩ := T.F_line_of
  refine ⟨⟨fd, F.okX sc_line_of (fun vs H Q E h => ?_) (fun cdv A outer s H vs Q E hr h => ⟨_, (pss_cons (ps_set (i := 3) sc_line_of.nd rfl (Or.inl rfl) (pe_callTy call_list_of (by rfl) T.b_list (by decide +kernel) (pa_cons (pe_g (ok_signs_of T) (hr.mono (by decide)) rfl T.m_signs_of (E := fun _ => E0) px0 (pa_cons (pv 0) pa_nil)) pa_nil)))
    (pss_cons (ps_if (pt_cmpR (op_neD hr.units) (pv 1) (pe_lst pa_nil) (nomark _))
      (pss_one (ps_expr (pe_bm PySem.F.plainAttrs_list PySem.F.slot_list_extend PySem.F.type_list_extend mt_extend (pv 3) (pa_cons (pe_op op_cat (pe_lst (pa_cons pe_int pa_nil)) (pe_g (ok_with_commas T) (hr.mono (by decide)) rfl T.m_with_commas (E := fun _ => E0) px0 (pa_cons (pv 1) pa_nil))) pa_nil))))
      pss_nil)
    (pss_one (ps_ret (pe_op op_cat (pv 3) (pe_callTy call_list_of (by rfl) T.b_list (by decide +kernel) (pa_cons (pe_g (ok_signs_of T) (hr.mono (by decide)) rfl T.m_signs_of (E := fun _ => E0) px0 (pa_cons (pe_op op_add_str (pv 2) pe_str) pa_nil)) pa_nil))))))), ?_⟩), F.binds fun _ _ _ _ _ _ us hl => match us, hl with | [_, _, _], _ => rfl⟩, T.k_line_of⟩
  · obtain ⟨z, z2, p, qs, ls, bz, b2, rfl, _⟩ := h
    rfl
  · obtain ⟨z, z2, p, qs, ls, bz, b2, rfl, hp, hn, h4, h16, hz, hz2, hbz, hb2, k⟩ := h
    have zl : z.length = bz.length := by rw [← codes_len, hz, bv_len]
    have zl2 : z2.length = b2.length := by rw [← codes_len, hz2, bv_len]
    refine q_asgL (el_signs (ev_var rfl) (by omega) hz) fun f H1 hf e1 h1 => ?_
    have hj := joined_len ls h16
    -- the end of the line
    have last : ∀ (pre : List V) (H2 : Hp), Ex H H2 → H2 f = some (.lst pre) → pre.length ≤ 90 → pre ++ bv (b2 ++ (word " ;" ++ [10])) = bv (lineB bz ls b2) → tRet (tOp rCat (tVar 3) (tCB (rListS K) (tCons (tG sp_signs_of (fun _ => E0) (tCons (tOp (fun x y H Q => ∃ i j, x = V.str i ∧ y = V.str j ∧ i.length + j.length ≤ sizeLine ∧ Q (.str (i ++ j)) H) (tVar 2) (tC (.str " ;\n"))) tNil)) tNil)))
        { nx := fun _ H' => Q .non H', rt := Q } [some (.str z), some (.ref p), some (.str z2), some (.ref f)] H2 := by
      intro pre H2 e2 h2 hpl heq
      have hc : codes (z2 ++ (" ;\n" : Str)) = bv (b2 ++ (word " ;" ++ [10])) := by
        rw [codes_app, hz2, bv_app]
        congr 1
      have hl3 : (z2 ++ (" ;\n" : Str)).length = b2.length + 3 := by
        rw [← codes_len, hc, bv_len, List.length_append]
        congr 1
      refine s_retL (xs := pre ++ bv (b2 ++ (word " ;" ++ [10]))) (el_catV (ev_var rfl) h2 (el_signs (ev_op (ev_var rfl) ev_c (rv_addS (by show z2.length + 3 ≤ 100000; omega))) (by omega) hc) ?_) fun q H3 hq e3 h3 => ?_
      · rw [← hc, codes_len, hl3]
        omega
      · rw [heq] at h3
        exact k q H3 (fresh_back e2 hq) (e2.trans e3) h3
    refine q_when (et_test (ev_opL (ev_var rfl) (el_lst ea_nil (by decide)) fun r H2 hr e2 => rv_neNames (ex_l (e1.trans e2) hp) (hn.ex (e1.trans e2)) hr)) (fun hb H2 e2 => ?_) (fun hb H2 e2 => ?_)
    · have hne : ls ≠ [] := of_decide_eq_true hb
      have e12 := e1.trans e2
      refine s_ext (ys := bv (32 :: joined comma ls)) (e2 _ _ h1) (ev_var rfl) (el_cat (xs := [.int 32]) (el_lst (ea_cons ev_c ea_nil) (by show (1 : Nat) ≤ 100000; decide)) (el_g (ea_cons (ev_var rfl) ea_nil) fun H3 e3 Q q E => ⟨p, qs, ls, rfl, ex_l (e12.trans e3) hp, hn.ex (e12.trans e3), h4, h16, q⟩) ?_) ?_ fun H3 e3 => ?_
      · show 1 + (bv (joined comma ls)).length ≤ _
        rw [bv_len]
        omega
      · rw [bv_len, bv_len, List.length_cons]
        omega
      · refine last _ _ (Ex.mut (e12.trans e3) hf) upd_same ?_ ?_
        · rw [List.length_append, bv_len, bv_len, List.length_cons]
          omega
        · unfold lineB
          rw [if_neg hne, bv_app (bz ++ _), bv_app bz]
    · have hem : ls = [] := by simpa using of_decide_eq_false hb
      refine last _ _ (e1.trans e2) (e2 _ _ h1) (by rw [bv_len]; omega) ?_
      unfold lineB
      rw [if_pos hem, List.append_nil, bv_app bz]
theorem given_cols {n gr : Nat} {f : Nat → Bool} {v : Nat → V} {ns : List Addr} (hf : ∀ k, k < n → f k = (gr / 2 ^ k % 2 == 1)) (hv : ∀ k, k < n → v k = .ref (ns.getD k 0)) : given n f v = refs ((columnsOf n gr).map fun k => ns.getD k 0) := by
  unfold given columnsOf refs
  rw [List.map_map]
  have e1 : (List.range n).filter f = (List.range n).filter fun i => gr / 2 ^ i % 2 == 1 := List.filter_congr fun k hk => hf k (List.mem_range.mp hk)
  rw [e1]
  exact List.map_congr_left fun k hk => hv k (List.mem_range.mp (List.mem_filter.mp hk).1)
theorem bit_neB {gr i : Nat} (hg : gr < 16) (hi : i < 4) : (!decide (V.int (Builtin.bitAnd (gr : Int) ((2 ^ i : Nat) : Int)) = V.int 0)) = (gr / 2 ^ i % 2 == 1) := by
  rw [bit_ne hg hi, Bool.eq_iff_iff, decide_eq_true_iff, beq_iff_eq]
theorem ok_columns_in (T : Txt K mg a) : Good P w K mg base 1 a.f_columns_in ["table", "grouping"] (sp_columns_in a) := by
  obtain ⟨fd, F⟩ := T.F_columns_in
  refine ⟨⟨fd, F.okX sc_columns_in (fun vs H Q E h => ?_) (fun cdv A outer s H vs Q E hr h => ⟨_, (pss_one (ps_ret (pe_lc (own := [("at", 2), ("name", 3)]) rfl sc_columns_in.nd (pi_enum (by rfl) T.b_enumerate (pa_cons (pe_fld (pv 0) rfl) pa_nil)) (blkOk_by (own := [("at", 2), ("name", 3)]) (N := ["table", "grouping", "at", "name"]) (sc := defScope s_columns_in) (by decide +kernel)) (fun _ _ _ _ _ => (pg_tupK (K := K) (n := 2) rfl (pgs_cons (pg_name (i := 2) sc_columns_in.nd rfl (Or.inl rfl)) (pgs_cons (pg_name (i := 3) sc_columns_in.nd rfl (Or.inl rfl)) pgs_nil)))) (fun _ _ _ _ _ => (pts_one (pt_cmpR op_ne (pe_op op_and (pv 1) (pe_ix (ix_tupK (K := K)) (pe_gr rfl T.m_WEIGHTS) (pv 2) (fun _ _ => rfl))) pe_int (nomark _)))) (fun _ _ _ _ _ => (pv 3))))), ?_⟩), F.binds fun _ _ _ _ _ _ us hl => match us, hl with | [_, _], _ => rfl⟩, T.k_columns_in⟩
  · obtain ⟨g, t, gr, rfl, _⟩ := h
    rfl
  · obtain ⟨g, t, gr, rfl, TT, h4, hg, k⟩ := h
    obtain ⟨dy, htb⟩ := TT.tb
    have hnl : g.ns.length = t.cols.length := prs_len TT.ns
    refine s_retL (xs := given (refs g.ns).length (fun k => gr / 2 ^ k % 2 == 1) (fun k => .ref (g.ns.getD k 0))) (el_lcE _ _ (ev_fld (ev_var rfl) htb T.cl_Table T.n_Table_columns (tabF_c g)) (sq_of TT.c) (by rw [refs_len]; omega) (fun _ _ => rfl) (fun i x H1 e1 hi => ?_) (fun i x H1 e1 hi hf => ?_)) fun p H2 hp e2 h2 => ?_
    · have hil := (List.getElem?_eq_some_iff.mp hi).1
      rw [refs_len, hnl] at hil
      exact et_is (et_test (ev_op (ev_op (ev_var rfl) (ev_op ev_c (ev_var rfl) (rv_ixT (T.t_WEIGHTS _) (atI_nat (weights_at (by omega))))) rv_I0) ev_c (rv_ne rfl))) (bit_neB hg (by omega))
    · unfold refs at hi
      rw [List.getElem?_map] at hi
      cases hq : g.ns[i]? with
      | none => rw [hq] at hi; cases hi
      | some q =>
        rw [hq] at hi
        cases hi
        have : g.ns.getD i 0 = q := by rw [List.getD_eq_getElem?_getD, hq]; rfl
        rw [this]
        exact ev_var rfl
    · rw [refs_len, hnl, given_cols (gr := gr) (ns := g.ns) (fun k _ => rfl) (fun k _ => rfl)] at h2
      exact k p H2 hp e2 h2
end
end BA

namespace BA
open PySem PySem.Spec PyProof.Rows L2 Evl
open VamvsBase (Bytes word joined showNat showInt)
open Vamvsa (columnsOf showRow showAsk shown)

def gI (x : V) : List V := match x with
  | .int i => codes (toString i)
  | _ => []
theorem names_of {H : Hp} : ∀ {vs : List Nat} {xs : List V}, (∀ v ∈ vs, v ≤ 9) → Paired (fun y x => ∃ q, y = V.ref q ∧ H q = some (.tup (gI x))) xs (vI vs) → ∃ qs, xs = refs qs ∧ NamL H qs (vs.map showNat)
  | [], _, _, .nil => ⟨[], rfl, .nil⟩
  | v :: vs, _, hb, .cons ⟨q, h1, h2⟩ r => by
    obtain ⟨qs, k1, k2⟩ := names_of (vs := vs) (fun u hu => hb u (List.mem_cons_of_mem _ hu)) r
    refine ⟨q :: qs, by rw [h1, k1]; rfl, .cons ?_ k2⟩
    have hv : v ≤ 9 := hb v List.mem_cons_self
    rw [← codes_nat (show v ≤ 1000 by omega)]
    exact h2
theorem flat_snoc {α β : Type} (f : α → List β) (l : List α) (x : α) : (l ++ [x]).flatMap f = l.flatMap f ++ f x := by simp [List.flatMap_append]
theorem sel_names {H : Hp} {ns : List Addr} {cs : List Bytes} (h : NamL H ns cs) : ∀ ks : List Nat, (∀ k ∈ ks, k < cs.length) → NamL H (ks.map fun k => ns.getD k 0) (ks.map fun k => cs.getD k [])
  | [], _ => .nil
  | k :: ks, hk => by
    have hlt := hk k List.mem_cons_self
    obtain ⟨q, h1, h2⟩ := prs_get h (List.getElem?_eq_getElem hlt)
    refine .cons ?_ (sel_names h ks fun j hj => hk j (List.mem_cons_of_mem _ hj))
    show H (ns.getD k 0) = some (.tup (bv (cs.getD k [])))
    rw [List.getD_eq_getElem?_getD, List.getD_eq_getElem?_getD, h1, List.getElem?_eq_getElem hlt]
    exact h2
theorem colsOf_lt {n g k : Nat} (h : k ∈ columnsOf n g) : k < n := List.mem_range.mp (List.mem_filter.mp h).1
section
variable {P : Program} {w : World} {K : PySem.W.Frag} {mg : Str → Option Value} {base : Heap} {a : Ad} {H H' : Hp} {σ : L2.St} {D : Ends} {tz : TS} {ta te : TE}
/-- line_of with a new list of parts -/
theorem el_line {tl tb : TE} {xs : List V} {z z2 : Str} {ls : List Bytes} {bz b2 : Bytes} {E : L2.St → XK} {Pr : List V → Hp → Prop} (hl : EvLP tl σ H Pr) (hb : Ev tb σ H (.str z2)) (hP : ∀ xs H1, Ex H H1 → Pr xs H1 → ∃ qs, xs = refs qs ∧ NamL H1 qs ls) (h4 : ls.length ≤ 4) (h16 : ∀ b ∈ ls, b.length ≤ 16)
    (hz : codes z = bv bz) (hz2 : codes z2 = bv b2) (hbz : bz.length ≤ 10) (hb2 : b2.length ≤ 12) : EvL (tG (sp_line_of K) E (tCons (tC (.str z)) (tCons tl (tCons tb tNil)))) σ H (bv (lineB bz ls b2)) := fun H1 e Q q =>
  hl H1 e _ fun p xs H2 hp e2 h2 hPx => by
    obtain ⟨qs, rfl, hn⟩ := hP xs H2 (e.trans e2) hPx
    refine hb H2 (e.trans e2) _ fun H3 e3 => ⟨z, z2, p, qs, ls, bz, b2, rfl, sq_of (e3 _ _ h2), hn.ex e3, h4, h16, hz, hz2, hbz, hb2, fun r H4 hr e4 h4 => q r H4 (fresh_back (e2.trans e3) hr) ((e2.trans e3).trans e4) h4⟩
theorem EvL.p {tl : TE} {xs : List V} (h : EvL tl σ H xs) : EvLP tl σ H (fun ys _ => ys = xs) := fun H1 e Q q => h H1 e _ fun p H2 hp e2 h2 => q p xs H2 hp e2 h2 rfl
theorem ok_one_form (T : Txt K mg a) : Good P w K mg base 4 a.f_one_form ["table"] (sp_one_form a) := by
  obtain ⟨fd, F⟩ := T.F_one_form
  refine ⟨⟨fd, F.okX sc_one_form (fun vs H Q E h => ?_) (fun cdv A outer s H vs Q E hr h => ⟨_, (pss_cons (ps_set (i := 1) sc_one_form.nd rfl (Or.inl rfl) (pe_g (ok_line_of T) (hr.mono (by decide)) rfl T.m_line_of (E := fun _ => E0) px0 (pa_cons pe_str (pa_cons (pe_fld (pv 0) rfl) (pa_cons pe_str pa_nil)))))
    (pss_cons (ps_for (passes_of rfl) rfl (pi_list (pe_fld (pv 0) rfl)) (pg_tup rfl (pgs_cons (pg_name (i := 2) sc_one_form.nd rfl (Or.inl rfl)) (pgs_cons (pg_name (i := 3) sc_one_form.nd rfl (Or.inl rfl)) pgs_nil)))
      (pss_one (ps_expr (pe_bm PySem.F.plainAttrs_list PySem.F.slot_list_extend PySem.F.type_list_extend mt_extend (pv 1) (pa_cons (pe_g (ok_line_of T) (hr.mono (by decide)) rfl T.m_line_of (E := fun _ => E0) px0 (pa_cons pe_str (pa_cons (pe_lc (own := [("value", 6)]) rfl sc_one_form.nd (pi_tup (pv 2)) (blkOk_by (own := [("value", 6)]) (N := ["table", "found", "values", "amount", "grouping", "times", "value"]) (sc := defScope s_one_form) (by decide +kernel)) (fun _ _ _ _ _ => (pg_name (i := 6) sc_one_form.nd rfl (Or.inl rfl))) (fun _ _ _ _ _ => pts_nil) (fun _ _ _ _ _ => (pe_g (ok_signs_of T) (hr.mono (by decide)) rfl T.m_signs_of (E := fun _ => E0) px0 (pa_cons (pe_callTy call_str_int (by rfl) T.b_str (by decide +kernel) (pa_cons (pv 6) pa_nil)) pa_nil)))) (pa_cons (pe_op op_add_str pe_str (pe_callTy call_str_int (by rfl) T.b_str (by decide +kernel) (pa_cons (pv 3) pa_nil))) pa_nil)))) pa_nil)))))
    (pss_cons (ps_for (passes_of rfl) rfl (pi_list (pe_fld (pv 0) rfl)) (pg_tup rfl (pgs_cons (pg_name (i := 4) sc_one_form.nd rfl (Or.inl rfl)) (pgs_cons (pg_name (i := 5) sc_one_form.nd rfl (Or.inl rfl)) pgs_nil)))
      (pss_one (ps_expr (pe_bm PySem.F.plainAttrs_list PySem.F.slot_list_extend PySem.F.type_list_extend mt_extend (pv 1) (pa_cons (pe_g (ok_line_of T) (hr.mono (by decide)) rfl T.m_line_of (E := fun _ => E0) px0 (pa_cons pe_str (pa_cons (pe_g (ok_columns_in T) (hr.mono (by decide)) rfl T.m_columns_in (E := fun _ => E0) px0 (pa_cons (pv 0) (pa_cons (pv 4) pa_nil))) (pa_cons (pe_ifExp (pt_cmpR op_eq (pv 5) pe_int (nomark _)) pe_str (pe_op op_add_str pe_str (pe_callTy call_str_int (by rfl) T.b_str (by decide +kernel) (pa_cons (pv 5) pa_nil)))) pa_nil)))) pa_nil)))))
    (pss_one (ps_ret (pv 1)))))), ?_⟩), F.binds fun _ _ _ _ _ _ us hl => match us, hl with | [_], _ => rfl⟩, T.k_one_form⟩
  · obtain ⟨g, t, rfl, _⟩ := h
    rfl
  · obtain ⟨g, t, rfl, TT, wf, k⟩ := h
    obtain ⟨dy, htb⟩ := TT.tb
    have c0 : t.cols ≠ [] := fun e => by have := wf.c1; rw [e] at this; cases this
    have hcw : codes "columns" = bv (word "columns") := by decide +kernel
    have hcl : (word "columns").length ≤ 10 := by decide +kernel
    refine q_asgL (xs := bv (lineB (word "columns") t.cols [])) (el_g (ea_cons ev_c (ea_cons (ev_fld (ev_var rfl) htb T.cl_Table T.n_Table_columns (tabF_c g)) (ea_cons ev_c ea_nil))) fun H1 e1 Q q E =>
      ⟨"columns", "", g.c, g.ns, t.cols, word "columns", [], rfl, sq_of (e1 _ _ TT.c), TT.ns.ex e1, wf.c4, wf.cn, hcw, rfl, hcl, by decide, q⟩) fun f H1 hf e1 h1 => ?_
    have hl0 : (lineB (word "columns") t.cols []).length ≤ 100 := lineB_len hcl (by decide) wf.c4 wf.cn
    generalize hL : lineB (word "columns") t.cols [] = L0 at h1 hl0
    refine q_for2 (ev_fld (ev_var rfl) (e1 _ _ htb) T.cl_Table T.n_Table_rows (tabF_r g)) (sq_of (e1 _ _ TT.r)) (fun i σ' H' => ∃ x y, σ' = [some (.ref g.tb), some (.ref f), x, y, none, none, none] ∧ Ex H H' ∧ i ≤ t.rows.length ∧ H' f = some (.lst (bv (L0 ++ (t.rows.take i).flatMap showRow))) ∧ (L0 ++ (t.rows.take i).flatMap showRow).length ≤ 100 + 100 * i)
      (fun H2 e2 => ⟨none, none, rfl, e1.trans e2, Nat.zero_le _, by rw [List.take_zero]; show H2 f = some (.lst (bv (L0 ++ []))); rw [List.append_nil]; exact e2 _ _ h1, by rw [List.take_zero]; show (L0 ++ []).length ≤ _; rw [List.append_nil]; omega⟩)
      (fun _ _ _ _ ⟨_, _, _, e, _⟩ => sq_of (e _ _ TT.r)) (fun i wv σ' H' hi ⟨x0, y0, hσ, e, hil, hfl, hlen⟩ => ?_) (fun σ' H' ⟨x0, y0, hσ, e, _, hfl, hlen⟩ => ?_)
    · subst hσ
      unfold refs at hi
      rw [List.getElem?_map] at hi
      cases hq : g.rs[i]? with
      | none => rw [hq] at hi; cases hi
      | some p =>
        rw [hq] at hi
        cases hi
        obtain ⟨row, hrow, v, hp, hv⟩ := prs_getL TT.rs hq
        have hmem := List.mem_of_getElem? hrow
        have hlt := (List.getElem?_eq_some_iff.mp hrow).1
        obtain ⟨w1, w2, w3⟩ := wf.rw row hmem
        refine ⟨p, .ref v, .int row.m, rfl, st_of (e _ _ hp), ?_⟩
        have hvs : row.vs ≠ [] := fun z => by rw [z] at w1; have := wf.c1; rw [← w1] at this; cases this
        have hb4 : (row.vs.map showNat).length ≤ 4 := by rw [List.length_map, w1]; exact wf.c4
        have hb16 : ∀ b ∈ row.vs.map showNat, b.length ≤ 16 := fun b hb => by
          obtain ⟨n, hn, rfl⟩ := List.mem_map.mp hb
          have := nat_len (show n ≤ 1000 by have := w2 n hn; omega)
          omega
        have hrw : codes "row" = bv (word "row") := by decide +kernel
        have hrl : (word "row").length ≤ 10 := by decide +kernel
        have hsl : (word " : ").length = 3 := by decide +kernel
        have hil2 := int_len w3
        have hb2 : (word " : " ++ showInt row.m).length ≤ 12 := by rw [List.length_append]; omega
        have hz2 : codes ((" : " : Str) ++ toString row.m) = bv (word " : " ++ showInt row.m) := by
          rw [codes_app, codes_int w3, bv_app]
          congr 1
        have hll := lineB_len hrl hb2 hb4 hb16
        have hzl : (toString row.m : Str).length ≤ 10 := by
          rw [← codes_len, codes_int w3, bv_len]
          omega
        refine s_ext (ys := bv (lineB (word "row") (row.vs.map showNat) (word " : " ++ showInt row.m))) hfl (ev_var rfl) (el_line (xs := []) (elp_lcT gI (ev_var rfl) (st_of (e _ _ hv)) (by rw [vI_len, w1]; have := wf.c4; omega) (fun _ => rfl) fun x H2 e2 hx => ?_) (ev_op ev_c (ev_str (ev_var rfl) (log_small w3)) (rv_addS (by show 3 + _ ≤ _; omega))) (fun xs H2 e2 hp2 => names_of w2 hp2) hb4 hb16 hrw hz2 hrl hb2) ?_ fun H2 e2 => ?_
        · obtain ⟨n, hn, rfl⟩ := List.mem_map.mp hx
          have h9 := w2 n hn
          have hcn := codes_nat (show n ≤ 1000 by omega)
          refine eu_signs (ev_str (ev_var rfl) (log_small (by rw [Int.natAbs_natCast]; omega))) ?_
          rw [← codes_len, hcn, bv_len]
          have := nat_len (show n ≤ 1000 by omega)
          omega
        · rw [bv_len, bv_len]
          have := wf.r16
          omega
        · refine ⟨_, _, rfl, Ex.mut (e.trans e2) hf, hlt, ?_, ?_⟩
          · rw [upd_same, List.take_succ, hrow, show (some row).toList = [row] from rfl, flat_snoc, ← List.append_assoc, bv_app (L0 ++ _), lineB_row row hvs]
          · rw [List.take_succ, hrow, show (some row).toList = [row] from rfl, flat_snoc, ← List.append_assoc, List.length_append, ← lineB_row row hvs]
            omega
    · subst hσ
      have hrl : (refs g.rs).length = t.rows.length := by rw [refs_len]; exact prs_len TT.rs
      rw [hrl, List.take_length] at hfl hlen
      generalize hL1 : L0 ++ t.rows.flatMap showRow = L1 at hfl hlen
      have hl1 : L1.length ≤ 1700 := by have := wf.r16; omega
      refine q_for2 (ev_fld (ev_var rfl) (e _ _ htb) T.cl_Table T.n_Table_questions (tabF_q g)) (sq_of (e _ _ TT.q)) (fun i σ' H' => ∃ x y, σ' = [some (.ref g.tb), some (.ref f), x0, y0, x, y, none] ∧ Ex H H' ∧ i ≤ t.asks.length ∧ H' f = some (.lst (bv (L1 ++ (t.asks.take i).flatMap (showAsk t.cols)))) ∧ (L1 ++ (t.asks.take i).flatMap (showAsk t.cols)).length ≤ 1700 + 100 * i)
        (fun H2 e2 => ⟨none, none, rfl, e.trans e2, Nat.zero_le _, by rw [List.take_zero]; show H2 f = some (.lst (bv (L1 ++ []))); rw [List.append_nil]; exact e2 _ _ hfl, by rw [List.take_zero]; show (L1 ++ []).length ≤ _; rw [List.append_nil]; omega⟩)
        (fun _ _ _ _ ⟨_, _, _, e, _⟩ => sq_of (e _ _ TT.q)) (fun i wv σ' H' hi ⟨x1, y1, hσ, e, hil, hfl, hlen⟩ => ?_) (fun σ' H' ⟨x1, y1, hσ, e, _, hfl, hlen⟩ => ?_)
      · subst hσ
        unfold refs at hi
        rw [List.getElem?_map] at hi
        cases hq : g.qs[i]? with
        | none => rw [hq] at hi; cases hi
        | some p =>
          rw [hq] at hi
          cases hi
          obtain ⟨ask, hask, hp⟩ := prs_getL TT.qs hq
          have hmem := List.mem_of_getElem? hask
          have hlt := (List.getElem?_eq_some_iff.mp hask).1
          obtain ⟨w1, w2, w3⟩ := wf.aw ask hmem
          have hg16 : ask.g < 16 := pow2_lt wf.c4 w1
          refine ⟨p, .int (ask.g : Nat), .int (ask.k : Nat), rfl, st_of (e _ _ hp), ?_⟩
          have hsub : ∀ b ∈ (columnsOf t.cols.length ask.g).map fun i => t.cols.getD i [], b.length ≤ 16 := fun b hb => by
            obtain ⟨i, hi, rfl⟩ := List.mem_map.mp hb
            have hlt := colsOf_lt hi
            rw [List.getD_eq_getElem?_getD, List.getElem?_eq_getElem hlt]
            exact wf.cn _ (List.getElem_mem hlt)
          have hb4 : ((columnsOf t.cols.length ask.g).map fun i => t.cols.getD i []).length ≤ 4 := by
            rw [List.length_map]
            have := List.length_filter_le (fun i => ask.g / 2 ^ i % 2 == 1) (List.range t.cols.length)
            rw [List.length_range] at this
            exact Nat.le_trans this wf.c4
          have haw : codes "ask" = bv (word "ask") := by decide +kernel
          have hal : (word "ask").length ≤ 10 := by decide +kernel
          have htl : (word " times ").length = 7 := by decide +kernel
          have hkl := nat_len (show ask.k ≤ 1000 by omega)
          have hkc := codes_nat (show ask.k ≤ 1000 by omega)
          have hb2 : (if ask.k = 1 then ([] : Bytes) else word " times " ++ showNat ask.k).length ≤ 12 := by
            split
            · exact Nat.zero_le _
            · rw [List.length_append]; omega
          have hz2 : codes (if ask.k = 1 then ("" : Str) else (" times " : Str) ++ toString ((ask.k : Nat) : Int)) = bv (if ask.k = 1 then ([] : Bytes) else word " times " ++ showNat ask.k) := by
            split
            · rfl
            · rw [codes_app, hkc, bv_app]
              congr 1
          have hll := lineB_len hal hb2 hb4 hsub
          have hzl : (toString ((ask.k : Nat) : Int) : Str).length ≤ 10 := by
            rw [← codes_len, hkc, bv_len]
            omega
          refine s_ext (ys := bv (lineB (word "ask") ((columnsOf t.cols.length ask.g).map fun i => t.cols.getD i []) (if ask.k = 1 then ([] : Bytes) else word " times " ++ showNat ask.k))) hfl (ev_var rfl) (el_line (xs := []) (EvL.p (el_g (xs := refs ((columnsOf t.cols.length ask.g).map fun k => g.ns.getD k 0)) (ea_cons (ev_var rfl) (ea_cons (ev_var rfl) ea_nil)) fun H1 e1 Q q E => ⟨g, t, ask.g, rfl, TT.ex (e.trans e1), wf.c4, hg16, q⟩))
            (ev_if (et_test (ev_op (ev_var rfl) ev_c (rv_eq rfl))) (fun hb => ev_is ev_c ?_) (fun hb => ev_is (ev_op ev_c (ev_str (ev_var rfl) (log_small (by rw [Int.natAbs_natCast]; omega))) (rv_addS (by show 7 + _ ≤ _; omega))) ?_)) (fun xs H2 e2 hp2 => ⟨_, hp2, (sel_names TT.ns _ fun k hk => colsOf_lt hk).ex (e.trans e2)⟩) hb4 hsub haw hz2 hal hb2) ?_ fun H2 e2 => ?_
          · have hk : ask.k = 1 := by
              have := of_decide_eq_true hb
              injection this with this
              omega
            rw [if_pos hk]
          · have hk : ¬ ask.k = 1 := fun z => by
              rw [z] at hb
              cases hb
            rw [if_neg hk]
          · rw [bv_len, bv_len]
            have := wf.a8
            omega
          · refine ⟨_, _, rfl, Ex.mut (e.trans e2) hf, hlt, ?_, ?_⟩
            · rw [upd_same, List.take_succ, hask, show (some ask).toList = [ask] from rfl, flat_snoc, ← List.append_assoc, bv_app (L1 ++ _), lineB_ask t.cols ask wf.c4 w1]
            · rw [List.take_succ, hask, show (some ask).toList = [ask] from rfl, flat_snoc, ← List.append_assoc, List.length_append, ← lineB_ask t.cols ask wf.c4 w1]
              omega
      · subst hσ
        have hql : (refs g.qs).length = t.asks.length := by rw [refs_len]; exact prs_len TT.qs
        rw [hql, List.take_length] at hfl hlen
        have hsh : L1 ++ t.asks.flatMap (showAsk t.cols) = shown t := by
          rw [← hL1, ← hL, lineB_cols t c0, List.append_assoc]
          rfl
        rw [hsh] at hfl hlen
        refine s_ret (ev_var rfl) fun H2 e2 => k (by have := wf.a8; omega) f H2 hf (e.trans e2) (e2 _ _ hfl)
end
end BA

namespace BA
open PySem PySem.Spec PyProof.Rows L2 Evl
open VamvsBase (Bytes)
open Vamvsa (columnsOf width sizeOf_)

/-! ### groupings -/
def hasB (i j : Nat) : Bool := decide (V.int (Builtin.bitAnd (i : Int) (j : Int)) = V.int (j : Int))
def aboveB (i j : Nat) : Bool := (!decide (V.int (i : Int) = V.int (j : Int))) && hasB i j
theorem hasB_eq {n i j : Nat} (hn : n ≤ 4) (hi : i < 2 ^ n) (hj : j < 2 ^ n) : hasB i j = Vamvsa.canFrom n i j := by
  have key : ∀ (n : Fin 5) (i j : Fin 16), i.1 < 2 ^ n.1 → j.1 < 2 ^ n.1 → hasB i.1 j.1 = Vamvsa.canFrom n.1 i.1 j.1 := by decide +kernel
  exact key ⟨n, by omega⟩ ⟨i, pow2_lt hn hi⟩ ⟨j, pow2_lt hn hj⟩ hi hj
theorem aboveB_eq {t : Vamvsa.Table} {i j : Nat} (hn : width t ≤ 4) (hi : i < 2 ^ width t) (hj : j < 2 ^ width t) : aboveB i j = Vamvsd.above t i j := by
  unfold aboveB Vamvsd.above
  rw [hasB_eq hn hi hj]
  congr 1
  by_cases e : i = j
  · subst e
    simp
  · have e2 : ¬ V.int (i : Int) = V.int (j : Int) := fun z => e (by
      injection z with z
      omega)
    rw [decide_eq_false e2]
    exact (bne_iff_ne.mpr e).symm
def ccount (g : Nat) : Nat := ((List.range 5).filter fun k => g / 2 ^ k % 2 == 1).length
theorem ccount_eq {t : Vamvsa.Table} {g : Nat} (hn : width t ≤ 4) (hg : g < 2 ^ width t) : ccount g = Vamvsd.rank t g := by
  have key : ∀ (n : Fin 5) (i : Fin 16), i.1 < 2 ^ n.1 → ccount i.1 = (columnsOf n.1 i.1).length := by decide +kernel
  exact key ⟨width t, by omega⟩ ⟨g, pow2_lt hn hg⟩ hg
theorem wt_bit {gr i : Nat} (hg : gr < 16) (hi : i < 5) : (!decide (V.int (Builtin.bitAnd (gr : Int) ((2 ^ i : Nat) : Int)) = V.int 0)) = (gr / 2 ^ i % 2 == 1) := by
  have : ∀ (gr : Fin 16) (i : Fin 5), (!decide (V.int (Builtin.bitAnd ((gr.1 : Nat) : Int) ((2 ^ i.1 : Nat) : Int)) = V.int 0)) = (gr.1 / 2 ^ i.1 % 2 == 1) := by decide +kernel
  exact this ⟨gr, hg⟩ ⟨i, hi⟩
def nk (l : List Nat) : List Key := l.map fun n : Nat => Sum.inl (n : Int)
theorem nk_vI (l : List Nat) : (nk l).map kV = vI l := by unfold nk vI; rw [List.map_map]; rfl
theorem nk_inj {l m : List Nat} (h : nk l = nk m) : l = m := by
  unfold nk at h
  refine (List.map_inj_right ?_).mp h
  intro x y e
  have := Sum.inl.inj e
  omega
def kvsOf (ks : List (List Nat)) : List (List Key × V) := ks.map fun k => (nk k, .bl true)
theorem kvs_put (ks : List (List Nat)) (k : List Nat) : putK (kvsOf ks) (nk k) (.bl true) = kvsOf (addKey ks k) := by
  have e1 : ((kvsOf ks).any fun kv => decide (kv.1 = nk k)) = decide (k ∈ ks) := by
    unfold kvsOf
    rw [List.any_map, Bool.eq_iff_iff, List.any_eq_true, decide_eq_true_iff]
    constructor
    · rintro ⟨x, hx, e⟩
      have : nk x = nk k := of_decide_eq_true e
      rw [← nk_inj this]
      exact hx
    · intro h
      exact ⟨k, h, decide_eq_true rfl⟩
  unfold putK addKey
  rw [e1]
  by_cases h : k ∈ ks
  · rw [if_pos (decide_eq_true h), if_pos h]
    unfold kvsOf
    rw [List.map_map]
    refine List.map_congr_left fun x _ => ?_
    show (if nk x = nk k then (nk x, V.bl true) else (nk x, V.bl true)) = _
    split <;> rfl
  · rw [if_neg (by simpa using h), if_neg h]
    unfold kvsOf
    rw [List.map_append]
    rfl

def sp_size_of (a : Ad) : Sp := fun vs H Q _ => ∃ (g : TG_) (t : Vamvsa.Table) (gr : Nat), vs = [.ref g.tb, .int (gr : Nat)] ∧ TabAt a.c_Table H g t ∧ Wf t ∧ gr < 2 ^ width t ∧ RetV (.int (sizeOf_ t gr : Nat)) H Q
def sp_has_all : Sp := fun vs H Q _ => ∃ i j : Nat, vs = [.int (i : Nat), .int (j : Nat)] ∧ RetV (.bl (hasB i j)) H Q
def sp_is_above : Sp := fun vs H Q _ => ∃ i j : Nat, vs = [.int (i : Nat), .int (j : Nat)] ∧ RetV (.bl (aboveB i j)) H Q
def sp_column_count : Sp := fun vs H Q _ => ∃ g : Nat, vs = [.int (g : Nat)] ∧ g < 16 ∧ RetV (.int (ccount g : Nat)) H Q
def sp_helper_number (K : PySem.W.Frag) : Sp := fun vs H Q _ => ∃ (p : Addr) (hs : List Nat), vs = [.ref p] ∧ SqL K H p (vI hs) ∧ hs.length ≤ 100 ∧ (∀ h ∈ hs, h < 16) ∧ RetV (.int ((hs.map fun g => 2 ^ g).sum : Nat)) H Q
section
variable {K : PySem.W.Frag} {σ : L2.St} {H H' : Hp} {ta tb te tl : TE} {x y z v : V} {D : Ends} {tu tw tz : TS}
/-- a comprehension over a tuple, with a test -/
theorem el_lcT {a : Addr} {xs : List V} {j : Nat} {t : TT} {vs : List Nat} (f : Nat → Bool) (v : Nat → V) (h : Ev tl σ H (.ref a)) (hx : SqT K H a xs) (hz : xs.length ≤ 40000) (hw : ∀ x, wipe ((wipe σ vs).set j (some x)) vs = wipe σ vs)
    (ht : ∀ (i : Nat) (x : V) H1, Ex H H1 → xs[i]? = some x → EvT t ((wipe σ vs).set j (some x)) H1 (f i)) (he : ∀ (i : Nat) (x : V) H1, Ex H H1 → xs[i]? = some x → f i = true → Ev te ((wipe σ vs).set j (some x)) H1 (v i)) :
    EvL (tLc (iTup K tl) (gName j) t te vs) σ H (given xs.length f v) := fun H0 e Q q => h H0 e _ fun H1 e1 => ⟨a, rfl, ⟨xs, ex_t (e.trans e1) hx⟩, fun Dl hD =>
  lc_tup (xs := xs) (Cw H1 f v Dl) ⟨hD, Ex.new hD, upd_same⟩ (fun i H' _ p => ex_t ((e.trans e1).trans p.2.1) hx) (fun i x H' hi p => ⟨hw x, cw_turn p (by have := (List.getElem?_eq_some_iff.mp hi).1; omega) (ht i x H1 (e.trans e1) hi) (fun hf => he i x H1 (e.trans e1) hi hf)⟩)
    (fun H' p => q Dl H' (fresh_back e1 p.1) (e1.trans p.2.1) p.2.2)⟩
theorem ev_sum {p : Addr} {ns : List Int} (ha : Ev ta σ H (.ref p)) (h : SqL K H p (ns.map V.int)) : Ev (tCB (rSum K) (tCons ta tNil)) σ H (.int ns.sum) := ev_cb (ea_cons ha ea_nil) fun H1 e Q q => ⟨p, ns, rfl, ex_l e h, q H1 (Ex.refl _)⟩
theorem ev_sumN {ns : List Int} (ha : EvL ta σ H (ns.map V.int)) : Ev (tCB (rSum K) (tCons ta tNil)) σ H (.int ns.sum) := fun H1 e Q q => ha H1 e _ fun p H2 hp e2 h2 => ⟨p, ns, rfl, SqL.of h2, q H2 e2⟩
theorem s_dputT {td tv ty : TE} {d : Addr} {kvs : List (List Key × V)} {ks : List Key} (hd : H d = some (.dT kvs)) (hv : Ev tv σ H v) (ho : Ev td σ H (.ref d)) (hk : EvU ty σ H (ks.map kV)) (hz : kvs.length < sizeLine) (k : ∀ H1, Ex H H1 → D.nx σ (upd H1 d (.dT (putK kvs ks v)))) : sDPut td ty tv D σ H :=
  hv H (Ex.refl _) _ fun H1 e1 => ho H1 e1 _ fun H2 e2 => hk H2 (e1.trans e2) _ fun b H3 hb e3 h3 => ⟨d, _, rfl, DPut.t (((e1.trans e2).trans e3) _ _ hd) h3 hz, k H3 ((e1.trans e2).trans e3)⟩
theorem s_setLc {i : Nat} {xs : List V} (h : EvL te σ H xs) (k : ∀ p H1, H p = none → Ex H H1 → H1 p = some (.lst xs) → D.nx (σ.set i (some (.ref p))) H1) : tAsg te (gName i) D σ H := s_asgL h k
end
theorem ints_sum (l : List Nat) : (l.map fun n : Nat => (n : Int)).sum = ((l.sum : Nat) : Int) := by
  induction l with
  | nil => rfl
  | cons a r ih => simp [ih]
theorem vI_ints (l : List Nat) : vI l = (l.map fun n : Nat => (n : Int)).map V.int := by unfold vI; rw [List.map_map]; rfl
theorem given_vI {n : Nat} {f : Nat → Bool} : given n f (fun k => .int (k : Nat)) = vI ((List.range n).filter f) := rfl
theorem given_all {n : Nat} {v : Nat → V} : given n (fun _ => true) v = (List.range n).map v := by
  unfold given
  rw [List.filter_eq_self.mpr fun _ _ => rfl]
theorem vI_get {l : List Nat} {i : Nat} {x : V} (h : (vI l)[i]? = some x) : ∃ n, l[i]? = some n ∧ x = .int (n : Nat) := by
  unfold vI at h
  rw [List.getElem?_map] at h
  cases e : l[i]? with
  | none => rw [e] at h; cases h
  | some n =>
    rw [e] at h
    exact ⟨n, rfl, (Option.some.inj h).symm⟩
theorem range_map_get (l : List Nat) (f : Nat → V) : (List.range l.length).map (fun i => f (l.getD i 0)) = l.map f := by
  refine List.ext_getElem? fun i => ?_
  rw [List.getElem?_map, List.getElem?_map]
  by_cases hi : i < l.length
  · rw [List.getElem?_range hi, List.getElem?_eq_getElem hi]
    show some (f (l.getD i 0)) = some (f l[i])
    rw [List.getD_eq_getElem?_getD, List.getElem?_eq_getElem hi]
    rfl
  · rw [List.getElem?_eq_none (by simpa using hi), List.getElem?_eq_none (by omega)]
    rfl
section
variable {P : Program} {w : World} {K : PySem.W.Frag} {mg : Str → Option Value} {base : Heap} {a : Ad} {H H' : Hp} {σ : L2.St} {D : Ends} {tz : TS} {ta tb te : TE}
theorem spv_has {i j : Nat} : SpV sp_has_all [.int (i : Nat), .int (j : Nat)] H (.bl (hasB i j)) := fun H1 _ Q q E => ⟨i, j, rfl, q⟩
theorem spv_above {i j : Nat} : SpV sp_is_above [.int (i : Nat), .int (j : Nat)] H (.bl (aboveB i j)) := fun H1 _ Q q E => ⟨i, j, rfl, q⟩
theorem ok_has_all (T : Txt K mg a) : Good P w K mg base 1 a.f_has_all ["one", "other"] sp_has_all := by
  obtain ⟨fd, F⟩ := T.F_has_all
  refine ⟨⟨fd, F.okX sc_has_all (fun vs H Q E h => ?_) (fun cdv A outer s H vs Q E hr h => ⟨_, (pss_one (ps_ret (pe_cmpR op_eq (pe_op op_and (pv 0) (pv 1)) (pv 1) (nomark _)))), ?_⟩), F.binds fun _ _ _ _ _ _ us hl => match us, hl with | [_, _], _ => rfl⟩, T.k_has_all⟩
  · obtain ⟨i, j, rfl, _⟩ := h
    rfl
  · obtain ⟨i, j, rfl, k⟩ := h
    exact s_ret (ev_op (ev_op (ev_var rfl) (ev_var rfl) rv_I0) (ev_var rfl) (rv_eq rfl)) k
theorem ok_is_above (T : Txt K mg a) : Good P w K mg base 2 a.f_is_above ["one", "other"] sp_is_above := by
  obtain ⟨fd, F⟩ := T.F_is_above
  refine ⟨⟨fd, F.okX sc_is_above (fun vs H Q E h => ?_) (fun cdv A outer s H vs Q E hr h => ⟨_, (pss_one (ps_ret (pe_and (pe_cmpR op_ne (pv 0) (pv 1) (nomark _)) (pe_one (pe_g (ok_has_all T) (hr.mono (by decide)) rfl T.m_has_all (E := fun _ => E0) px0 (pa_cons (pv 0) (pa_cons (pv 1) pa_nil))))))), ?_⟩), F.binds fun _ _ _ _ _ _ us hl => match us, hl with | [_, _], _ => rfl⟩, T.k_is_above⟩
  · obtain ⟨i, j, rfl, _⟩ := h
    rfl
  · obtain ⟨i, j, rfl, k⟩ := h
    exact s_ret (ev_andV (ev_op (ev_var rfl) (ev_var rfl) (rv_ne rfl)) fun _ => ev_g (ea_cons (ev_var rfl) (ea_cons (ev_var rfl) ea_nil)) spv_has) k
theorem ok_column_count (T : Txt K mg a) : Good P w K mg base 1 a.f_column_count ["grouping"] sp_column_count := by
  obtain ⟨fd, F⟩ := T.F_column_count
  refine ⟨⟨fd, F.okX sc_column_count (fun vs H Q E h => ?_) (fun cdv A outer s H vs Q E hr h => ⟨_, (pss_one (ps_ret (pe_callB call_len_seq (by rfl) T.b_len (by decide +kernel) (pa_cons (pe_lc (own := [("weight", 1)]) rfl sc_column_count.nd (pi_tup (pe_gr rfl T.m_WEIGHTS)) (blkOk_by (own := [("weight", 1)]) (N := ["grouping", "weight"]) (sc := defScope s_column_count) (by decide +kernel)) (fun _ _ _ _ _ => (pg_name (i := 1) sc_column_count.nd rfl (Or.inl rfl))) (fun _ _ _ _ _ => (pts_one (pt_cmpR op_ne (pe_op op_and (pv 0) (pv 1)) pe_int (nomark _)))) (fun _ _ _ _ _ => (pv 1))) pa_nil)))), ?_⟩), F.binds fun _ _ _ _ _ _ us hl => match us, hl with | [_], _ => rfl⟩, T.k_column_count⟩
  · obtain ⟨g, rfl, _⟩ := h
    rfl
  · obtain ⟨g, rfl, hg, k⟩ := h
    refine s_ret (v := .int (ccount g : Nat)) (ev_is (ev_lenN (xs := given 5 (fun k => g / 2 ^ k % 2 == 1) fun k => .int ((2 ^ k : Nat) : Int)) (el_lcT _ _ ev_c (T.t_WEIGHTS _) (by decide) (fun _ => rfl) (fun i x H1 e1 hi => ?_) fun i x H1 e1 hi hf => ?_)) ?_) k
    · have hil := (List.getElem?_eq_some_iff.mp hi).1
      have hil : i < 5 := hil
      rw [weights_at (by omega)] at hi
      cases hi
      exact et_is (et_test (ev_op (ev_op (ev_var rfl) (ev_var rfl) rv_I0) ev_c (rv_ne rfl))) (wt_bit hg hil)
    · have hil := (List.getElem?_eq_some_iff.mp hi).1
      have hil : i < 5 := hil
      rw [weights_at (by omega)] at hi
      cases hi
      exact ev_var rfl
    · unfold given ccount
      rw [List.length_map]
theorem ok_helper_number (T : Txt K mg a) : Good P w K mg base 1 a.f_helper_number ["helpers"] (sp_helper_number K) := by
  obtain ⟨fd, F⟩ := T.F_helper_number
  refine ⟨⟨fd, F.okX sc_helper_number (fun vs H Q E h => ?_) (fun cdv A outer s H vs Q E hr h => ⟨_, (pss_one (ps_ret (pe_callB (cr_sum rfl) (by rfl) T.b_sum (by decide +kernel) (pa_cons (pe_lc (own := [("grouping", 1)]) rfl sc_helper_number.nd (pi_list (pv 0)) (blkOk_by (own := [("grouping", 1)]) (N := ["helpers", "grouping"]) (sc := defScope s_helper_number) (by decide +kernel)) (fun _ _ _ _ _ => (pg_name (i := 1) sc_helper_number.nd rfl (Or.inl rfl))) (fun _ _ _ _ _ => pts_nil) (fun _ _ _ _ _ => (pe_op op_shl pe_int (pv 1)))) pa_nil)))), ?_⟩), F.binds fun _ _ _ _ _ _ us hl => match us, hl with | [_], _ => rfl⟩, T.k_helper_number⟩
  · obtain ⟨p, hs, rfl, _⟩ := h
    rfl
  · obtain ⟨p, hs, rfl, hp, hl, h16, k⟩ := h
    have e : given (vI hs).length (fun _ => true) (fun i => V.int (((2 ^ hs.getD i 0) : Nat) : Int)) = ((hs.map fun g => 2 ^ g).map fun n : Nat => (n : Int)).map V.int := by
      rw [given_all, vI_len, range_map_get hs fun g => V.int (((2 ^ g) : Nat) : Int), List.map_map, List.map_map]
      rfl
    refine s_ret (v := .int ((hs.map fun g => 2 ^ g).sum : Nat)) (ev_is (ev_sumN (ns := (hs.map fun g => 2 ^ g).map fun n : Nat => (n : Int)) ?_) (congrArg V.int (ints_sum _))) k
    rw [← e]
    refine el_lcL _ _ (ev_var rfl) hp (by rw [vI_len]; omega) (fun _ => rfl) (fun i x H1 e1 hi => fun H2 e2 Q q => q H2 (Ex.refl _)) fun i x H1 e1 hi hf => ?_
    obtain ⟨n, hn, rfl⟩ := vI_get hi
    have hn16 := h16 n (List.mem_of_getElem? hn)
    have hd : hs.getD i 0 = n := by rw [List.getD_eq_getElem?_getD, hn]; rfl
    rw [hd]
    refine ev_is (ev_op ev_c (ev_var rfl) (rv_I ⟨by omega, by omega, by decide⟩)) ?_
    congr 1
    rw [Int.toNat_natCast, Int.one_mul]
    norm_cast
theorem ok_size_of (T : Txt K mg a) : Good P w K mg base 1 a.f_size_of ["table", "grouping"] (sp_size_of a) := by
  obtain ⟨fd, F⟩ := T.F_size_of
  refine ⟨⟨fd, F.okX sc_size_of (fun vs H Q E h => ?_) (fun cdv A outer s H vs Q E hr h => ⟨_, (pss_cons (ps_setLc (i := 2) (own := [("at", 6)]) rfl sc_size_of.nd rfl rfl (sw_true rfl rfl rfl (by decide +kernel)) (pi_range1 rfl T.b_range (pa_cons (pe_callB call_len_seq (by rfl) T.b_len (by decide +kernel) (pa_cons (pe_fld (pv 0) rfl) pa_nil)) pa_nil)) (blkOk_by (own := [("at", 6)]) (N := ["table", "grouping", "places", "found", "values", "amount", "at"]) (sc := defScope s_size_of) (by decide +kernel)) (fun _ _ _ _ _ => (pg_name (i := 6) sc_size_of.nd rfl (Or.inl rfl))) (fun _ _ _ _ _ => (pts_one (pt_cmpR op_ne (pe_op op_and (pv 1) (pe_ix (ix_tupK (K := K)) (pe_gr rfl T.m_WEIGHTS) (pv 6) (fun _ _ => rfl))) pe_int (nomark _)))) (fun _ _ _ _ _ => (pv 6)))
    (pss_cons (ps_set (i := 3) sc_size_of.nd rfl (Or.inl rfl) pe_dnewT)
    (pss_cons (ps_for (passes_of rfl) rfl (pi_list (pe_fld (pv 0) rfl)) (pg_tup rfl (pgs_cons (pg_name (i := 4) sc_size_of.nd rfl (Or.inr rfl)) (pgs_cons (pg_name (i := 5) sc_size_of.nd rfl (Or.inl rfl)) pgs_nil)))
      (pss_one (ps_dput (hu_of hr) (pv 3) (pe_callTy call_tuple_of (by rfl) T.b_tuple (by decide +kernel) (pa_cons (pe_lc (own := [("at", 6)]) rfl sc_size_of.nd (pi_list (pv 2)) (blkOk_by (own := [("at", 6)]) (N := ["table", "grouping", "places", "found", "values", "amount", "at"]) (sc := defScope s_size_of) (by decide +kernel)) (fun _ _ _ _ _ => (pg_name (i := 6) sc_size_of.nd rfl (Or.inl rfl))) (fun _ _ _ _ _ => pts_nil) (fun _ _ _ _ _ => (pe_ix (ix_tupK (K := K)) (pv 4) (pv 6) (fun _ _ => rfl)))) pa_nil)) pe_bl rfl)))
    (pss_one (ps_ret (pe_callB call_len_dT (by rfl) T.b_len (by decide +kernel) (pa_cons (pv 3) pa_nil))))))), ?_⟩), F.binds fun _ _ _ _ _ _ us hl => match us, hl with | [_, _], _ => rfl⟩, T.k_size_of⟩
  · obtain ⟨g, t, gr, rfl, _⟩ := h
    rfl
  · obtain ⟨g, t, gr, rfl, TT, wf, hg, k⟩ := h
    obtain ⟨dy, htb⟩ := TT.tb
    have hw4 : width t ≤ 4 := wf.c4
    have hg16 := pow2_lt hw4 hg
    have hnl : g.ns.length = width t := prs_len TT.ns
    refine q_asgL (xs := vI (columnsOf (width t) gr)) ?_ fun p H1 hp e1 h1 => ?_
    · have z := el_lcR1 (te := tVar 6) (t := tTest (tOp rNe (tOp (rI0 fun i j => .int (Builtin.bitAnd i j)) (tVar 1) (tOp (rIxT K) (tC (.ref a.WEIGHTS)) (tVar 6))) (tC (.int 0)))) (σ := [some (.ref g.tb), some (.int (gr : Nat)), none, none, none, none, none]) (H := H) (ta := tCons (tCB (rLenS K) (tCons (tFld K (tVar 0) "columns") tNil)) tNil) (j := 6) (vs := [6]) (n := (((refs g.ns).length : Nat) : Int)) (fun k => gr / 2 ^ k % 2 == 1) (fun k => .int (k : Nat))
        (ea_cons (ev_len (ev_fld (ev_var rfl) htb T.cl_Table T.n_Table_columns (tabF_c g)) (sq_of TT.c)) ea_nil) (by rw [refs_len, hnl]; omega) (fun _ => rfl) (fun i H1 e1 hi => ?_) fun i H1 e1 hi hf => ev_var rfl
      · rw [refs_len, hnl, Int.toNat_natCast, given_vI] at z
        exact z
      · rw [refs_len, hnl] at hi
        exact et_is (et_test (ev_op (ev_op (ev_var rfl) (ev_op ev_c (ev_var rfl) (rv_ixT (T.t_WEIGHTS _) (atI_nat (weights_at (by omega))))) rv_I0) ev_c (rv_ne rfl))) (bit_neB hg16 (by omega))
    intro d hd
    have e2 : Ex H1 (upd H1 d (.dT [])) := Ex.new hd
    have hd0 : H d = none := fresh_back e1 hd
    refine q_for2 (ev_fld (ev_var rfl) (e2 _ _ (e1 _ _ htb)) T.cl_Table T.n_Table_rows (tabF_r g)) (sq_of (e2 _ _ (e1 _ _ TT.r)))
      (fun i σ' H' => ∃ x y, σ' = [some (.ref g.tb), some (.int (gr : Nat)), some (.ref p), some (.ref d), x, y, none] ∧ Ex H1 H' ∧ i ≤ t.rows.length ∧ H' d = some (.dT (kvsOf (((t.rows.take i).map fun r => Vamvsa.keyOf (width t) gr r.vs).foldl addKey []))))
      (fun H3 e3 => ⟨none, none, rfl, e2.trans e3, Nat.zero_le _, by rw [List.take_zero]; exact e3 _ _ upd_same⟩) (fun _ _ _ _ ⟨_, _, _, e, _⟩ => sq_of (e _ _ (e1 _ _ TT.r))) (fun i wv σ' H' hi ⟨x0, y0, hσ, e, hil, hdd⟩ => ?_) (fun σ' H' ⟨x0, y0, hσ, e, _, hdd⟩ => ?_)
    · subst hσ
      unfold refs at hi
      rw [List.getElem?_map] at hi
      cases hq : g.rs[i]? with
      | none => rw [hq] at hi; cases hi
      | some q =>
        rw [hq] at hi
        cases hi
        obtain ⟨row, hrow, v, hqt, hvt⟩ := prs_getL TT.rs hq
        have hlt := (List.getElem?_eq_some_iff.mp hrow).1
        obtain ⟨w1, w2, w3⟩ := wf.rw row (List.mem_of_getElem? hrow)
        have eH := e1.trans e
        refine ⟨q, .ref v, .int row.m, rfl, st_of (eH _ _ hqt), ?_⟩
        have ek : given (vI (columnsOf (width t) gr)).length (fun _ => true) (fun i => V.int ((row.vs.getD ((columnsOf (width t) gr).getD i 0) 0 : Nat) : Int)) = vI (Vamvsa.keyOf (width t) gr row.vs) := by
          rw [given_all, vI_len, range_map_get (columnsOf (width t) gr) fun c => V.int ((row.vs.getD c 0 : Nat) : Int)]
          unfold vI Vamvsa.keyOf
          rw [List.map_map]
          rfl
        have hks : (kvsOf (((t.rows.take i).map fun r => Vamvsa.keyOf (width t) gr r.vs).foldl addKey [])).length < sizeLine := by
          unfold kvsOf
          rw [List.length_map]
          refine sz_lt ?_
          have := addKeys_le ((t.rows.take i).map fun r => Vamvsa.keyOf (width t) gr r.vs) []
          rw [List.length_map, List.length_take] at this
          have := wf.r16
          simp only [List.length_nil] at *
          omega
        refine s_dputT (ks := nk (Vamvsa.keyOf (width t) gr row.vs)) hdd ev_c (ev_var rfl) (eu_tupL (K := K) ?_) hks fun H2 e3 => ?_
        · rw [nk_vI, ← ek]
          refine el_lcL _ _ (ev_var rfl) (sq_of (e _ _ h1)) (by rw [vI_len]; have := List.length_filter_le (fun i => gr / 2 ^ i % 2 == 1) (List.range (width t)); rw [List.length_range] at this; show (columnsOf _ _).length ≤ _; unfold columnsOf; omega) (fun _ => rfl) (fun i x H1 e1 hi => fun H2 e2 Q q => q H2 (Ex.refl _)) fun i x H2 e3 hi hf => ?_
          obtain ⟨c, hc, rfl⟩ := vI_get hi
          have hcl := colsOf_lt (List.mem_of_getElem? hc)
          have hcd : (columnsOf (width t) gr).getD i 0 = c := by rw [List.getD_eq_getElem?_getD, hc]; rfl
          rw [hcd]
          refine ev_op (ev_var rfl) (ev_var rfl) (rv_ixT (st_of (e3 _ _ (eH _ _ hvt))) (atI_nat ?_))
          have hcv : c < row.vs.length := by rw [w1]; exact hcl
          unfold vI
          rw [List.getElem?_map, List.getElem?_eq_getElem hcv, List.getD_eq_getElem?_getD, List.getElem?_eq_getElem hcv]
          rfl
        · refine ⟨_, _, rfl, ?_, hlt, ?_⟩
          · intro b o hb
            by_cases hbd : b = d
            · subst hbd
              rw [hd] at hb
              cases hb
            · rw [upd_ne hbd]
              exact e3 _ _ (e _ _ hb)
          · rw [upd_same, kvs_put, List.take_succ, hrow, List.map_append, List.foldl_append]
            rfl
    · subst hσ
      have hrl : (refs g.rs).length = t.rows.length := by rw [refs_len]; exact prs_len TT.rs
      rw [hrl, List.take_length] at hdd
      refine s_ret (v := .int (sizeOf_ t gr : Nat)) (fun H3 e3 Q q => ⟨_, rfl, d, _, rfl, e3 _ _ hdd, ?_⟩) fun H3 e3 => k H3 ((e1.trans e).trans e3)
      unfold kvsOf
      rw [List.length_map, ← sizeOf_keys]
      exact q H3 (Ex.refl _)
end
end BA

namespace BA
open PySem PySem.Spec PyProof.Rows L2 Evl
open VamvsBase (Bytes)
open Vamvsa (columnsOf width sizeOf_)
open Vamvsd (parentNumber parentOf readOf oneCost buildCost lines)

/-! ### sizes -/
def szF (n : Nat) (l : Addr) : List (Str × V) := [("rows", .int (n : Nat)), ("lines", .ref l)]
structure SzAt (a : Ad) (H : Hp) (z : Addr) (t : Vamvsa.Table) : Prop where
  at_ : ∃ dx l, H z = some (.ins a.c_Sizes dx (szF t.rows.length l)) ∧ H l = some (.lst (vI (sizesL t)))
  wf : Wf t
theorem SzAt.ex {a : Ad} {H H' : Hp} {z : Addr} {t : Vamvsa.Table} (h : SzAt a H z t) (e : Ex H H') : SzAt a H' z t := by
  obtain ⟨⟨dx, l, h1, h2⟩, h3⟩ := h
  exact ⟨⟨dx, l, e _ _ h1, e _ _ h2⟩, h3⟩
theorem szF_rows (n : Nat) (l : Addr) : (szF n l).lookup ("rows" : Str) = some (.int (n : Nat)) := lk_here
theorem szF_lines (n : Nat) (l : Addr) : (szF n l).lookup ("lines" : Str) = some (.ref l) := (lk_past (by decide +kernel)).trans lk_here
theorem szF_none {m : Str} (n : Nat) (l : Addr) (h1 : (m == ("rows" : Str)) = false) (h2 : (m == ("lines" : Str)) = false) : (szF n l).lookup m = none := (lk_past h1).trans (lk_past h2)
def Bd (t : Vamvsa.Table) (S : List Nat) : Prop := (∀ s ∈ S, s < 2 ^ width t) ∧ S.length ≤ 1000
def srcOk (t : Vamvsa.Table) (u : Option Nat) : Prop := ∀ v, u = some v → v < 2 ^ width t
def sp_Sizes_init (a : Ad) : Sp := fun vs H Q _ => ∃ (x dx : Addr) (g : TG_) (t : Vamvsa.Table), vs = [.ref x, .ref g.tb] ∧ H x = some (.ins a.c_Sizes dx []) ∧ TabAt a.c_Table H g t ∧ Wf t ∧
  ∀ H' l, H l = none → H' x = some (.ins a.c_Sizes dx (szF t.rows.length l)) → H' l = some (.lst (vI (sizesL t))) → FrL [x] H H' → Q .non H'
def sp_smallest (K : PySem.W.Frag) (a : Ad) : Sp := fun vs H Q _ => ∃ (z p : Addr) (t : Vamvsa.Table) (S : List Nat), vs = [.ref z, .ref p] ∧ SzAt a H z t ∧ SqL K H p (vI S) ∧ Bd t S ∧ RetV (.int (parentNumber (S.foldl (minStep t) none))) H Q
def sp_parent_in (K : PySem.W.Frag) (a : Ad) : Sp := fun vs H Q _ => ∃ (z p : Addr) (t : Vamvsa.Table) (S : List Nat) (g : Nat), vs = [.ref z, .ref p, .int (g : Nat)] ∧ SzAt a H z t ∧ SqL K H p (vI S) ∧ Bd t S ∧ g < 2 ^ width t ∧ RetV (.int (parentNumber (parentOf t S g))) H Q
def sp_read_from (a : Ad) : Sp := fun vs H Q _ => ∃ (z : Addr) (t : Vamvsa.Table) (u : Option Nat), vs = [.ref z, .int (parentNumber u)] ∧ SzAt a H z t ∧ srcOk t u ∧ RetV (.int (readOf t u : Nat)) H Q
def sp_build_cost (a : Ad) : Sp := fun vs H Q _ => ∃ (z : Addr) (t : Vamvsa.Table) (u : Option Nat) (g : Nat), vs = [.ref z, .int (g : Nat), .int (parentNumber u)] ∧ SzAt a H z t ∧ srcOk t u ∧ g < 2 ^ width t ∧ RetV (.int (oneCost t u g : Nat)) H Q
def sp_cost_together (K : PySem.W.Frag) (a : Ad) : Sp := fun vs H Q _ => ∃ (z p : Addr) (t : Vamvsa.Table) (S : List Nat), vs = [.ref z, .ref p] ∧ SzAt a H z t ∧ SqL K H p (vI S) ∧ Bd t S ∧ RetV (.int (buildCost t S : Nat)) H Q
def sp_total (K : PySem.W.Frag) (a : Ad) : Sp := fun vs H Q _ => ∃ (z p : Addr) (t : Vamvsa.Table) (S : List Nat), vs = [.ref z, .ref p] ∧ SzAt a H z t ∧ SqL K H p (vI S) ∧ Bd t S ∧ RetV (.int (lines t S : Nat)) H Q
section
variable {K : PySem.W.Frag} {σ : L2.St} {H H' : Hp} {ta tb te tl : TE}
/-- sorted(..) of numbers -/
theorem perm_nat {S : List Nat} {ns' : List Int} (h : ns'.Perm (S.map fun n : Nat => (n : Int))) (hs : ns'.Pairwise (· ≤ ·)) : ns' = (srt S).map fun n : Nat => (n : Int) := by
  have e : ns' = (ns'.map Int.toNat).map fun n : Nat => (n : Int) := by
    rw [List.map_map]
    refine (List.map_id' ns').symm.trans (List.map_congr_left fun i hi => ?_)
    obtain ⟨n, _, rfl⟩ := List.mem_map.mp (h.mem_iff.mp hi)
    rfl
  have hp : (ns'.map Int.toNat).Perm S := by
    have := h.map Int.toNat
    rw [List.map_map] at this
    have z : S.map (Int.toNat ∘ fun n : Nat => (n : Int)) = S := (List.map_congr_left fun n _ => Int.toNat_natCast n).trans (List.map_id' S)
    rw [z] at this
    exact this
  have hw : (ns'.map Int.toNat).Pairwise (· ≤ ·) := by
    rw [List.pairwise_map]
    exact hs.imp fun {a b} h => Int.toNat_le_toNat h
  rw [e, sorted_eq (hp.trans (srt_perm S).symm) hw (srt_sorted S)]
theorem el_sorted {p : Addr} {S : List Nat} (ha : Ev ta σ H (.ref p)) (h : SqL K H p (vI S)) : EvL (tCB (rSortedI K) (tCons ta tNil)) σ H (vI (srt S)) := fun H1 e Q q => ha H1 e _ fun H2 e2 =>
  ⟨p, S.map fun n : Nat => (n : Int), rfl, by rw [← vI_ints]; exact ex_l (e.trans e2) h, fun ns' r hperm hsort hr => q r _ (fresh_back e2 hr) (e2.trans (Ex.new hr)) (by rw [upd_same, perm_nat hperm hsort, ← vI_ints])⟩
theorem el_sortedN {S : List Nat} (ha : EvL ta σ H (vI S)) : EvL (tCB (rSortedI K) (tCons ta tNil)) σ H (vI (srt S)) := fun H1 e Q q => ha H1 e _ fun p H2 hp e2 h2 =>
  ⟨p, S.map fun n : Nat => (n : Int), rfl, by rw [← vI_ints]; exact sq_of h2, fun ns' r hperm hsort hr => q r _ (fresh_back e2 hr) (e2.trans (Ex.new hr)) (by rw [upd_same, perm_nat hperm hsort, ← vI_ints])⟩
end
theorem given_filter {S : List Nat} {f : Nat → Bool} : given (vI S).length (fun i => f (S.getD i 0)) (fun i => .int (S.getD i 0 : Nat)) = vI (S.filter f) := by
  have key : ∀ (S : List Nat) (n : Nat), n = S.length → ((List.range n).filter fun i => f (S.getD i 0)).map (fun i => S.getD i 0) = S.filter f := by
    intro S n hn
    have e : S = (List.range n).map fun i => S.getD i 0 := by
      refine List.ext_getElem? fun i => ?_
      rw [List.getElem?_map]
      by_cases hi : i < n
      · rw [List.getElem?_range hi, List.getElem?_eq_getElem (by omega)]
        show _ = some (S.getD i 0)
        rw [List.getD_eq_getElem?_getD, List.getElem?_eq_getElem (by omega)]
        rfl
      · rw [List.getElem?_eq_none (by omega), List.getElem?_eq_none (by simpa using hi)]
        rfl
    conv => rhs; rw [e, List.filter_map]
    rfl
  unfold given vI
  rw [List.length_map, ← key S S.length rfl, List.map_map]
  rfl
section
variable {P : Program} {w : World} {K : PySem.W.Frag} {mg : Str → Option Value} {base : Heap} {a : Ad} {H H' : Hp} {σ : L2.St} {D : Ends} {tz : TS} {ta tb te : TE} {z : Addr} {t : Vamvsa.Table}
theorem ok_Sizes_init (T : Txt K mg a) : Good P w K mg base 2 a.f_Sizes_init ["self", "table"] (sp_Sizes_init a) := by
  obtain ⟨fd, F⟩ := T.F_Sizes_init
  refine ⟨⟨fd, F.okX sc_Sizes_init (fun vs H Q E h => ?_) (fun cdv A outer s H vs Q E hr h => ⟨_, (pss_cons (ps_fld (pv 0) (pe_callB call_len_seq (by rfl) T.b_len (by decide +kernel) (pa_cons (pe_fld (pv 1) rfl) pa_nil)) rfl)
    (pss_one (ps_fld (pv 0) (pe_lc (own := [("grouping", 2)]) rfl sc_Sizes_init.nd (pi_range1 rfl T.b_range (pa_cons (pe_gm0 (ok_Table_groupings T) (pv 1) T.cl_Table T.me_Table_groupings (hr.mono (by decide)) (E := fun _ => E0) px0) pa_nil)) (blkOk_by (own := [("grouping", 2)]) (N := ["self", "table", "grouping"]) (sc := defScope s_Sizes_init) (by decide +kernel)) (fun _ _ _ _ _ => (pg_name (i := 2) sc_Sizes_init.nd rfl (Or.inl rfl))) (fun _ _ _ _ _ => pts_nil) (fun _ _ _ _ _ => (pe_g (ok_size_of T) (hr.mono (by decide)) rfl T.m_size_of (E := fun _ => E0) px0 (pa_cons (pv 1) (pa_cons (pv 2) pa_nil))))) rfl))), ?_⟩), F.binds fun _ _ _ _ _ _ us hl => match us, hl with | [_, _], _ => rfl⟩, T.k_Sizes_init⟩
  · obtain ⟨x, dx, g, t, rfl, _⟩ := h
    rfl
  · obtain ⟨x, dx, g, t, rfl, hx, TT, wf, k⟩ := h
    obtain ⟨dy, htb⟩ := TT.tb
    have hnl : g.ns.length = width t := prs_len TT.ns
    have hrl : g.rs.length = t.rows.length := prs_len TT.rs
    refine q_fld (y := .int (t.rows.length : Nat)) (ev_is (ev_len (ev_fld (ev_var rfl) htb T.cl_Table T.n_Table_rows (tabF_r g)) (sq_of TT.r)) (by rw [refs_len, hrl])) (ev_var rfl) hx T.cl_Sizes T.n_Sizes_rows (by decide) fun H1 e1 => ?_
    have ntb : g.tb ≠ x := ne_of htb hx (by
      intro w
      injection w with _ _ w
      cases w)
    have kp : ∀ b o, H b = some o → b ≠ x → upd H1 x (.ins a.c_Sizes dx (putF "rows" (.int (t.rows.length : Nat)) [])) b = some o := fun b o hb n => by rw [upd_ne n]; exact e1 _ _ hb
    have f1 : FrL [x] H (upd H1 x (.ins a.c_Sizes dx (putF "rows" (.int (t.rows.length : Nat)) []))) := (FrL.ex e1).trans (FrL.up (by simp))
    have TT1 : TabAt a.c_Table (upd H1 x (.ins a.c_Sizes dx (putF "rows" (.int (t.rows.length : Nat)) []))) g t := by
      have nl : ∀ {b : Addr} {xs : List V}, H b = some (.lst xs) → b ≠ x := fun hb => ne_of hb hx (by intro w; cases w)
      have nt : ∀ {b : Addr} {xs : List V}, H b = some (.tup xs) → b ≠ x := fun hb => ne_of hb hx (by intro w; cases w)
      exact ⟨⟨dy, kp _ _ htb ntb⟩, kp _ _ TT.c (nl TT.c), kp _ _ TT.r (nl TT.r), kp _ _ TT.q (nl TT.q), prs_imp (fun _ _ q => kp _ _ q (nt q)) TT.ns, prs_imp (fun _ _ ⟨v, q1, q2⟩ => ⟨v, kp _ _ q1 (nt q1), kp _ _ q2 (nt q2)⟩) TT.rs, prs_imp (fun _ _ q => kp _ _ q (nt q)) TT.qs⟩
    have hx1 : upd H1 x (.ins a.c_Sizes dx (putF "rows" (.int (t.rows.length : Nat)) [])) x = some (.ins a.c_Sizes dx (putF "rows" (.int (t.rows.length : Nat)) [])) := upd_same
    generalize upd H1 x (.ins a.c_Sizes dx (putF "rows" (.int (t.rows.length : Nat)) [])) = H2 at f1 TT1 hx1
    obtain ⟨dy2, htb2⟩ := TT1.tb
    have hp16 : 2 ^ width t ≤ 16 := pow_le16 wf.c4
    have eg : given ((((2 ^ (refs g.ns).length : Nat) : Int)).toNat) (fun _ => true) (fun i => V.int (sizeOf_ t i : Nat)) = vI (sizesL t) := by
      rw [given_all, refs_len, hnl, Int.toNat_natCast]
      unfold vI sizesL
      rw [List.map_map]
      rfl
    refine s_fldL (xs := vI (sizesL t)) ?_ (ev_var rfl) hx1 T.cl_Sizes T.n_Sizes_lines (by show (1 : Nat) ≤ 900; decide) fun l H3 hl e3 h3 => ?_
    · rw [← eg]
      refine el_lcR1 _ _ (ea_cons (ev_gm (ev_var rfl) htb2 (by exact (lk_past (by decide +kernel)).trans ((lk_past (by decide +kernel)).trans (lk_past (by decide +kernel)))) ea_nil fun H3 e3 Q q E => ⟨g.tb, dy2, g.c, g.r, g.q, refs g.ns, rfl, e3 _ _ htb2, e3 _ _ TT1.c, by rw [refs_len, hnl]; exact wf.c4, q⟩) ea_nil) ⟨Int.natCast_nonneg _, Int.ofNat_le.mpr (by rw [refs_len, hnl]; omega : 2 ^ (refs g.ns).length ≤ 40000)⟩ (fun _ => rfl) (fun i H3 e3 hi => fun H4 e4 Q q => q H4 (Ex.refl _)) fun i H3 e3 hi hf => ?_
      rw [refs_len, hnl] at hi
      exact ev_g (ea_cons (ev_var rfl) (ea_cons (ev_var rfl) ea_nil)) fun H4 e4 Q q E => ⟨g, t, i, rfl, TT1.ex (e3.trans e4), wf, Int.ofNat_lt.mp hi, q⟩
    · have nlx : l ≠ x := (ne_of_none hx1 hl).symm
      refine k _ l (f1.none hl (by simpa using nlx)) upd_same (by rw [upd_ne nlx]; exact h3) ((f1.trans (FrL.ex e3)).trans (FrL.up (by simp)))
/-- self.lines[g] -/
theorem ev_line {i j : Nat} {g : Nat} (T : Txt K mg a) (h0 : σ[i]? = some (some (.ref z))) (S : SzAt a H z t) (h1 : Ev tb σ H (.int (g : Nat))) (hg : g < 2 ^ width t) : Ev (tOp (rIxL K) (tFld K (tVar i) "lines") tb) σ H (.int (sizeOf_ t g : Nat)) := by
  obtain ⟨⟨dx, l, k1, k2⟩, _⟩ := S
  refine ev_op (ev_fld (ev_var h0) k1 T.cl_Sizes T.n_Sizes_lines (szF_lines _ _)) h1 (rv_ixL (sq_of k2) (atI_nat ?_))
  unfold vI
  rw [List.getElem?_map, sizesL_get hg]
  rfl
theorem ok_Sizes_smallest (T : Txt K mg a) : Good P w K mg base 1 a.f_Sizes_smallest ["self", "some"] (sp_smallest K a) := by
  obtain ⟨fd, F⟩ := T.F_Sizes_smallest
  refine ⟨⟨fd, F.okX sc_Sizes_smallest (fun vs H Q E h => ?_) (fun cdv A outer s H vs Q E hr h => ⟨_, (pss_cons (ps_set (i := 2) sc_Sizes_smallest.nd rfl (Or.inl rfl) (pe_gi rfl T.m_TABLE))
    (pss_cons (ps_for (passes_of rfl) rfl (pi_list (pe_callB cr_sortedI (by rfl) T.b_sorted (by decide +kernel) (pa_cons (pv 1) pa_nil))) (pg_name (i := 3) sc_Sizes_smallest.nd rfl (Or.inl rfl))
      (pss_one (ps_if (PW.pt (pw_or (pt_cmpR op_eq (pv 2) (pe_gi rfl T.m_TABLE) (nomark _)) (pw_or1 (pt_cmpR op_lt (pe_ix ix_list (pe_fld (pv 0) rfl) (pv 3) (fun _ _ => rfl)) (pe_ix ix_list (pe_fld (pv 0) rfl) (pv 2) (fun _ _ => rfl)) (nomark _)))))
      (pss_one (ps_set (i := 2) sc_Sizes_smallest.nd rfl (Or.inl rfl) (pv 3)))
      pss_nil)))
    (pss_one (ps_ret (pv 2))))), ?_⟩), F.binds fun _ _ _ _ _ _ us hl => match us, hl with | [_, _], _ => rfl⟩, T.k_Sizes_smallest⟩
  · obtain ⟨z, p, t, S, rfl, _⟩ := h
    rfl
  · obtain ⟨z, p, t, S, rfl, SZ, hp, ⟨hb, hl⟩, k⟩ := h
    refine q_asg (ev_c (v := .int (-1))) fun H1 e1 => ?_
    refine q_forNLn (el_sorted (ev_var rfl) (ex_l e1 hp)) (fun l i σ' H' => ∃ x, σ' = [some (.ref z), some (.ref p), some (.int (parentNumber (((srt S).take i).foldl (sStep t) none))), x] ∧ Ex H H' ∧ H' l = some (.lst (vI (srt S))))
      (fun l H2 hl e2 h2 => ⟨none, rfl, e1.trans e2, h2⟩) (fun l i σ' H' _ ⟨_, _, _, h2⟩ => sq_of h2) (fun l i x σ' H' hi ⟨x0, hσ, e2, h2⟩ => ?_) (fun l σ' H' ⟨x0, hσ, e2, h2⟩ => ?_)
    · subst hσ
      obtain ⟨n, hn, rfl⟩ := vI_get hi
      have hnb : n < 2 ^ width t := hb n (srt_mem.mp (List.mem_of_getElem? hn))
      have step : ((srt S).take (i + 1)).foldl (sStep t) none = sStep t (((srt S).take i).foldl (sStep t) none) n := by
        rw [List.take_succ, hn, List.foldl_append]
        rfl
      have hbest : ∀ v, ((srt S).take i).foldl (sStep t) none = some v → v < 2 ^ width t := fun v hv => by
        rcases s_mem hv with h | h
        · exact hb v (srt_mem.mp (List.mem_of_mem_take h))
        · cases h
      have SZ' := SZ.ex e2
      cases hbst : ((srt S).take i).foldl (sStep t) none with
      | none =>
        rw [hbst] at step
        refine s_when (b := true) (et_is (et_or (b := true) (et_test (ev_op (ev_var rfl) ev_c (rv_eq rfl))) fun hf => (nomatch hf)) rfl) (fun _ H3 e3 => s_asg (ev_var rfl) fun H4 e4 => ⟨_, by rw [step]; rfl, (e2.trans e3).trans e4, e4 _ _ (e3 _ _ h2)⟩) (fun hf => (nomatch hf))
      | some v =>
        rw [hbst] at step
        have hv := hbest v hbst
        refine s_when (b := decide (sizeOf_ t n < sizeOf_ t v)) (et_is (et_or (et_test (ev_op (ev_var rfl) ev_c (rv_eq rfl))) fun _ => et_test (ev_op (ev_line (j := 0) T rfl SZ' (ev_var rfl) hnb) (ev_line (j := 0) T rfl SZ' (ev_var rfl) hv) rv_I0)) ?_) (fun hlt H3 e3 => s_asg (ev_var rfl) fun H4 e4 => ⟨some (.int (n : Nat)), ?_, (e2.trans e3).trans e4, e4 _ _ (e3 _ _ h2)⟩) (fun hlt H3 e3 => ⟨some (.int (n : Nat)), ?_, e2.trans e3, e3 _ _ h2⟩)
        · have : decide (V.int (parentNumber (some v)) = V.int (-1)) = false := decide_eq_false (by
            intro w
            injection w with w
            have w : ((v : Nat) : Int) = -1 := w
            omega)
          rw [this, Bool.false_or, Bool.eq_iff_iff, decide_eq_true_iff, decide_eq_true_iff]
          omega
        · rw [step]
          show _ = [some (V.ref z), some (V.ref p), some (V.int (parentNumber (if sizeOf_ t n < sizeOf_ t v then some n else some v))), _]
          rw [if_pos (of_decide_eq_true hlt)]
          rfl
        · rw [step]
          show _ = [some (V.ref z), some (V.ref p), some (V.int (parentNumber (if sizeOf_ t n < sizeOf_ t v then some n else some v))), _]
          rw [if_neg (of_decide_eq_false hlt)]
          rfl
    · subst hσ
      rw [vI_len, List.take_length, smallest_eq]
      exact s_ret (ev_var rfl) fun H3 e3 => k H3 (e2.trans e3)
theorem ok_Sizes_parent_in (T : Txt K mg a) : Good P w K mg base 3 a.f_Sizes_parent_in ["self", "some", "grouping"] (sp_parent_in K a) := by
  obtain ⟨fd, F⟩ := T.F_Sizes_parent_in
  refine ⟨⟨fd, F.okX sc_Sizes_parent_in (fun vs H Q E h => ?_) (fun cdv A outer s H vs Q E hr h => ⟨_, (pss_one (ps_ret (pe_gm (ok_Sizes_smallest T) (pv 0) T.cl_Sizes T.me_Sizes_smallest (hr.mono (by decide)) (E := fun _ => E0) px0 (pa_cons (pe_lc (own := [("other", 3)]) rfl sc_Sizes_parent_in.nd (pi_list (pv 1)) (blkOk_by (own := [("other", 3)]) (N := ["self", "some", "grouping", "other"]) (sc := defScope s_Sizes_parent_in) (by decide +kernel)) (fun _ _ _ _ _ => (pg_name (i := 3) sc_Sizes_parent_in.nd rfl (Or.inl rfl))) (fun _ _ _ _ _ => (pts_one (pt_val (pe_g (ok_is_above T) (hr.mono (by decide)) rfl T.m_is_above (E := fun _ => E0) px0 (pa_cons (pv 3) (pa_cons (pv 2) pa_nil)))))) (fun _ _ _ _ _ => (pv 3))) pa_nil)))), ?_⟩), F.binds fun _ _ _ _ _ _ us hl => match us, hl with | [_, _, _], _ => rfl⟩, T.k_Sizes_parent_in⟩
  · obtain ⟨z, p, t, S, g, rfl, _⟩ := h
    rfl
  · obtain ⟨z, p, t, S, g, rfl, SZ, hp, ⟨hb, hl⟩, hg, k⟩ := h
    obtain ⟨⟨dx, l, k1, k2⟩, wf⟩ := id SZ
    have hn : S.filter (fun u => aboveB u g) = S.filter fun u => Vamvsd.above t u g := List.filter_congr fun u hu => aboveB_eq wf.c4 (hb u hu) hg
    have hlf : (S.filter fun u => Vamvsd.above t u g).length ≤ S.length := List.length_filter_le _ _
    have lst : EvL (tLc (iList K (tVar 1)) (gName 3) (tB (tG sp_is_above (fun _ => E0) (tCons (tVar 3) (tCons (tVar 2) tNil)))) (tVar 3) [3]) [some (.ref z), some (.ref p), some (.int (g : Nat)), none] H (vI (S.filter fun u => Vamvsd.above t u g)) := by
      rw [← hn, ← given_filter]
      refine el_lcL _ _ (ev_var rfl) hp (by rw [vI_len]; omega) (fun _ => rfl) (fun i x H1 e1 hi => ?_) fun i x H1 e1 hi hf => ?_
      · obtain ⟨n, hn, rfl⟩ := vI_get hi
        rw [show S.getD i 0 = n by rw [List.getD_eq_getElem?_getD, hn]; rfl]
        exact et_B (ev_g (ea_cons (ev_var rfl) (ea_cons (ev_var rfl) ea_nil)) spv_above)
      · obtain ⟨n, hn, rfl⟩ := vI_get hi
        rw [show S.getD i 0 = n by rw [List.getD_eq_getElem?_getD, hn]; rfl]
        exact ev_var rfl
    refine s_ret (v := .int (parentNumber (parentOf t S g))) (fun H1 e1 Q q => ⟨_, rfl, z, dx, _, rfl, e1 _ _ k1, szF_none _ _ (by decide +kernel) (by decide +kernel), lst H1 e1 _ fun r H2 hr e2 h2 => ⟨z, r, t, _, rfl, SZ.ex (e1.trans e2), sq_of h2, ⟨fun s hs => hb s (List.mem_filter.mp hs).1, Nat.le_trans (List.length_filter_le _ _) hl⟩, fun H3 e3 => q H3 (e2.trans e3)⟩⟩) k
theorem ok_Sizes_read_from (T : Txt K mg a) : Good P w K mg base 1 a.f_Sizes_read_from ["self", "source"] (sp_read_from a) := by
  obtain ⟨fd, F⟩ := T.F_Sizes_read_from
  refine ⟨⟨fd, F.okX sc_Sizes_read_from (fun vs H Q E h => ?_) (fun cdv A outer s H vs Q E hr h => ⟨_, (pss_one (ps_ret (pe_ifExp (pt_cmpR op_eq (pv 1) (pe_gi rfl T.m_TABLE) (nomark _)) (pe_fld (pv 0) rfl) (pe_ix ix_list (pe_fld (pv 0) rfl) (pv 1) (fun _ _ => rfl))))), ?_⟩), F.binds fun _ _ _ _ _ _ us hl => match us, hl with | [_, _], _ => rfl⟩, T.k_Sizes_read_from⟩
  · obtain ⟨z, t, u, rfl, _⟩ := h
    rfl
  · obtain ⟨z, t, u, rfl, SZ, hu, k⟩ := h
    obtain ⟨⟨dx, l, k1, k2⟩, wf⟩ := id SZ
    cases u with
    | none => exact s_ret (ev_if (b := true) (et_test (ev_op (ev_var rfl) ev_c (rv_eq rfl))) (fun _ => ev_fld (ev_var rfl) k1 T.cl_Sizes T.n_Sizes_rows (szF_rows _ _)) fun hf => (nomatch hf)) k
    | some v =>
      have hv := hu v rfl
      refine s_ret (ev_if (b := false) (et_is (et_test (ev_op (ev_var rfl) ev_c (rv_eq rfl))) (decide_eq_false (by
        intro w
        injection w with w
        have w : ((v : Nat) : Int) = -1 := w
        omega))) (fun hf => (nomatch hf)) fun _ => ev_line (j := 0) T rfl SZ (ev_var rfl) hv) k
theorem ok_Sizes_build_cost (T : Txt K mg a) : Good P w K mg base 2 a.f_Sizes_build_cost ["self", "grouping", "source"] (sp_build_cost a) := by
  obtain ⟨fd, F⟩ := T.F_Sizes_build_cost
  refine ⟨⟨fd, F.okX sc_Sizes_build_cost (fun vs H Q E h => ?_) (fun cdv A outer s H vs Q E hr h => ⟨_, (pss_one (ps_ret (pe_op op_add (pe_gm (ok_Sizes_read_from T) (pv 0) T.cl_Sizes T.me_Sizes_read_from (hr.mono (by decide)) (E := fun _ => E0) px0 (pa_cons (pv 2) pa_nil)) (pe_ix ix_list (pe_fld (pv 0) rfl) (pv 1) (fun _ _ => rfl))))), ?_⟩), F.binds fun _ _ _ _ _ _ us hl => match us, hl with | [_, _, _], _ => rfl⟩, T.k_Sizes_build_cost⟩
  · obtain ⟨z, t, u, g, rfl, _⟩ := h
    rfl
  · obtain ⟨z, t, u, g, rfl, SZ, hu, hg, k⟩ := h
    obtain ⟨⟨dx, l, k1, k2⟩, wf⟩ := id SZ
    refine s_ret (v := .int (oneCost t u g : Nat)) (ev_is (ev_op (ev_gm (ev_var rfl) k1 (szF_none _ _ (by decide +kernel) (by decide +kernel)) (ea_cons (ev_var rfl) ea_nil) fun H1 e1 Q q E => ⟨z, t, u, rfl, SZ.ex e1, hu, q⟩) (ev_line (j := 0) T rfl SZ (ev_var rfl) hg) rv_I0) ?_) k
    unfold oneCost
    congr 1
theorem ok_Sizes_cost_together (T : Txt K mg a) : Good P w K mg base 4 a.f_Sizes_cost_together ["self", "some"] (sp_cost_together K a) := by
  obtain ⟨fd, F⟩ := T.F_Sizes_cost_together
  refine ⟨⟨fd, F.okX sc_Sizes_cost_together (fun vs H Q E h => ?_) (fun cdv A outer s H vs Q E hr h => ⟨_, (pss_one (ps_ret (pe_callB (cr_sum rfl) (by rfl) T.b_sum (by decide +kernel) (pa_cons (pe_lc (own := [("grouping", 2)]) rfl sc_Sizes_cost_together.nd (pi_list (pv 1)) (blkOk_by (own := [("grouping", 2)]) (N := ["self", "some", "grouping"]) (sc := defScope s_Sizes_cost_together) (by decide +kernel)) (fun _ _ _ _ _ => (pg_name (i := 2) sc_Sizes_cost_together.nd rfl (Or.inl rfl))) (fun _ _ _ _ _ => pts_nil) (fun _ _ _ _ _ => (pe_gm (ok_Sizes_build_cost T) (pv 0) T.cl_Sizes T.me_Sizes_build_cost (hr.mono (by decide)) (E := fun _ => E0) px0 (pa_cons (pv 2) (pa_cons (pe_gm (ok_Sizes_parent_in T) (pv 0) T.cl_Sizes T.me_Sizes_parent_in (hr.mono (by decide)) (E := fun _ => E0) px0 (pa_cons (pv 1) (pa_cons (pv 2) pa_nil))) pa_nil))))) pa_nil)))), ?_⟩), F.binds fun _ _ _ _ _ _ us hl => match us, hl with | [_, _], _ => rfl⟩, T.k_Sizes_cost_together⟩
  · obtain ⟨z, p, t, S, rfl, _⟩ := h
    rfl
  · obtain ⟨z, p, t, S, rfl, SZ, hp, hb, k⟩ := h
    obtain ⟨⟨dx, l, k1, k2⟩, wf⟩ := id SZ
    have e : given (vI S).length (fun _ => true) (fun i => V.int ((oneCost t (parentOf t S (S.getD i 0)) (S.getD i 0) : Nat) : Int)) = ((S.map fun g => oneCost t (parentOf t S g) g).map fun n : Nat => (n : Int)).map V.int := by
      rw [given_all, vI_len, range_map_get S fun g => V.int ((oneCost t (parentOf t S g) g : Nat) : Int), List.map_map, List.map_map]
      rfl
    refine s_ret (v := .int (buildCost t S : Nat)) (ev_is (ev_sumN (ns := (S.map fun g => oneCost t (parentOf t S g) g).map fun n : Nat => (n : Int)) ?_) (congrArg V.int (ints_sum _))) k
    rw [← e]
    refine el_lcL _ _ (ev_var rfl) hp (by rw [vI_len]; have := hb.2; omega) (fun _ => rfl) (fun i x H1 e1 hi => fun H2 e2 Q q => q H2 (Ex.refl _)) fun i x H1 e1 hi hf => ?_
    obtain ⟨n, hn, rfl⟩ := vI_get hi
    rw [show S.getD i 0 = n by rw [List.getD_eq_getElem?_getD, hn]; rfl]
    have hn2 := hb.1 n (List.mem_of_getElem? hn)
    have k1' := e1 _ _ k1
    refine ev_gm (ev_var rfl) k1' (szF_none _ _ (by decide +kernel) (by decide +kernel)) (ea_cons (ev_var rfl) (ea_cons (ev_gm (ev_var rfl) k1' (szF_none _ _ (by decide +kernel) (by decide +kernel)) (ea_cons (ev_var rfl) (ea_cons (ev_var rfl) ea_nil)) fun H2 e2 Q q E => ⟨z, p, t, S, n, rfl, SZ.ex (e1.trans e2), ex_l (e1.trans e2) hp, hb, hn2, q⟩) ea_nil)) fun H2 e2 Q q E => ⟨z, t, parentOf t S n, n, rfl, SZ.ex (e1.trans e2), fun v hv => hb.1 v (parentOf_mem hv).1, hn2, q⟩
theorem ok_Sizes_total (T : Txt K mg a) : Good P w K mg base 1 a.f_Sizes_total ["self", "some"] (sp_total K a) := by
  obtain ⟨fd, F⟩ := T.F_Sizes_total
  refine ⟨⟨fd, F.okX sc_Sizes_total (fun vs H Q E h => ?_) (fun cdv A outer s H vs Q E hr h => ⟨_, (pss_one (ps_ret (pe_callB (cr_sum rfl) (by rfl) T.b_sum (by decide +kernel) (pa_cons (pe_lc (own := [("grouping", 2)]) rfl sc_Sizes_total.nd (pi_list (pv 1)) (blkOk_by (own := [("grouping", 2)]) (N := ["self", "some", "grouping"]) (sc := defScope s_Sizes_total) (by decide +kernel)) (fun _ _ _ _ _ => (pg_name (i := 2) sc_Sizes_total.nd rfl (Or.inl rfl))) (fun _ _ _ _ _ => pts_nil) (fun _ _ _ _ _ => (pe_ix (ix_listK (K := K)) (pe_fldK (K := K) (pv 0) rfl) (pv 2) (fun _ _ => rfl)))) pa_nil)))), ?_⟩), F.binds fun _ _ _ _ _ _ us hl => match us, hl with | [_, _], _ => rfl⟩, T.k_Sizes_total⟩
  · obtain ⟨z, p, t, S, rfl, _⟩ := h
    rfl
  · obtain ⟨z, p, t, S, rfl, SZ, hp, hb, k⟩ := h
    have e : given (vI S).length (fun _ => true) (fun i => V.int ((sizeOf_ t (S.getD i 0) : Nat) : Int)) = ((S.map fun g => sizeOf_ t g).map fun n : Nat => (n : Int)).map V.int := by
      rw [given_all, vI_len, range_map_get S fun g => V.int ((sizeOf_ t g : Nat) : Int), List.map_map, List.map_map]
      rfl
    refine s_ret (v := .int (lines t S : Nat)) (ev_is (ev_sumN (ns := (S.map fun g => sizeOf_ t g).map fun n : Nat => (n : Int)) ?_) (congrArg V.int (ints_sum _))) k
    rw [← e]
    refine el_lcL _ _ (ev_var rfl) hp (by rw [vI_len]; have := hb.2; omega) (fun _ => rfl) (fun i x H1 e1 hi => fun H2 e2 Q q => q H2 (Ex.refl _)) fun i x H1 e1 hi hf => ?_
    obtain ⟨n, hn, rfl⟩ := vI_get hi
    rw [show S.getD i 0 = n by rw [List.getD_eq_getElem?_getD, hn]; rfl]
    exact ev_line (j := 0) T rfl (SZ.ex e1) (ev_var rfl) (hb.1 n (List.mem_of_getElem? hn))
end
end BA

namespace BA
open PySem PySem.Spec PyProof.Rows L2 Evl
open VamvsBase (Bytes)
open Vamvsa (columnsOf width sizeOf_)
open Vamvsd (parentNumber parentOf readOf oneCost buildCost lines Site doStep runBy run grown above)
abbrev Stp := Vamvsd.Step

/-! ### steps as they lie in the heap; what was played -/
def StL (H : Hp) (qs : List Addr) (sts : List Stp) : Prop := Paired (fun q st => H q = some (.tup [.int ((stepPair st).1 : Nat), .int (stepPair st).2])) qs sts
theorem StL.ex {H H' : Hp} {qs : List Addr} {sts : List Stp} (h : StL H qs sts) (e : Ex H H') : StL H' qs sts := prs_imp (fun _ _ q => e _ _ q) h
def plF (z l : Addr) (n c m : Nat) : List (Str × V) := [("sizes", .ref z), ("steps", .int (n : Nat)), ("cost", .int (c : Nat)), ("most", .int (m : Nat)), ("there", .ref l)]
theorem plF_sizes (z l : Addr) (n c m : Nat) : (plF z l n c m).lookup ("sizes" : Str) = some (.ref z) := lk_here
theorem plF_steps (z l : Addr) (n c m : Nat) : (plF z l n c m).lookup ("steps" : Str) = some (.int (n : Nat)) := (lk_past (by decide +kernel)).trans lk_here
theorem plF_cost (z l : Addr) (n c m : Nat) : (plF z l n c m).lookup ("cost" : Str) = some (.int (c : Nat)) := (lk_past (by decide +kernel)).trans ((lk_past (by decide +kernel)).trans lk_here)
theorem plF_most (z l : Addr) (n c m : Nat) : (plF z l n c m).lookup ("most" : Str) = some (.int (m : Nat)) := (lk_past (by decide +kernel)).trans ((lk_past (by decide +kernel)).trans ((lk_past (by decide +kernel)).trans lk_here))
theorem plF_there (z l : Addr) (n c m : Nat) : (plF z l n c m).lookup ("there" : Str) = some (.ref l) := (lk_past (by decide +kernel)).trans ((lk_past (by decide +kernel)).trans ((lk_past (by decide +kernel)).trans ((lk_past (by decide +kernel)).trans lk_here)))
theorem plF_play (z l : Addr) (n c m : Nat) : (plF z l n c m).lookup ("play" : Str) = none := (lk_past (by decide +kernel)).trans ((lk_past (by decide +kernel)).trans ((lk_past (by decide +kernel)).trans ((lk_past (by decide +kernel)).trans (lk_past (by decide +kernel)))))
theorem plF_psteps (z l : Addr) (n c m : Nat) {k : Nat} (e : k = n + 1) : putF "steps" (.int ((n : Int) + 1)) (plF z l n c m) = plF z l k c m := by
  subst e
  exact (put_past (by decide +kernel)).trans (congrArg _ put_here)
theorem plF_pcost (z l : Addr) (n c m d : Nat) : putF "cost" (.int ((c : Int) + (d : Nat))) (plF z l n c m) = plF z l n (c + d) m := (put_past (by decide +kernel)).trans (congrArg _ ((put_past (by decide +kernel)).trans (congrArg _ put_here)))
theorem plF_pmost (z l : Addr) (n c m d : Nat) : putF "most" (.int (d : Nat)) (plF z l n c m) = plF z l n c d := (put_past (by decide +kernel)).trans (congrArg _ ((put_past (by decide +kernel)).trans (congrArg _ ((put_past (by decide +kernel)).trans (congrArg _ put_here)))))
structure SzX (a : Ad) (H : Hp) (z l : Addr) (t : Vamvsa.Table) : Prop where
  at_ : ∃ dx lz, H z = some (.ins a.c_Sizes dx (szF t.rows.length lz)) ∧ H lz = some (.lst (vI (sizesL t))) ∧ lz ≠ l
  wf : Wf t
theorem SzX.sz {a : Ad} {H : Hp} {z l : Addr} {t : Vamvsa.Table} (h : SzX a H z l t) : SzAt a H z t := by
  obtain ⟨⟨dx, lz, h1, h2, _⟩, wf⟩ := h
  exact ⟨⟨dx, lz, h1, h2⟩, wf⟩
theorem SzX.ex {a : Ad} {H H' : Hp} {z l : Addr} {t : Vamvsa.Table} (h : SzX a H z l t) (e : Ex H H') : SzX a H' z l t := by
  obtain ⟨⟨dx, lz, h1, h2, h3⟩, wf⟩ := h
  exact ⟨⟨dx, lz, e _ _ h1, e _ _ h2, h3⟩, wf⟩
theorem SzX.upL {a : Ad} {H : Hp} {z l : Addr} {t : Vamvsa.Table} {xs ys : List V} (h : SzX a H z l t) (hl : H l = some (.lst xs)) : SzX a (upd H l (.lst ys)) z l t := by
  obtain ⟨⟨dx, lz, h1, h2, h3⟩, wf⟩ := h
  exact ⟨⟨dx, lz, kpI hl h1, kpL (xs := []) h2 h3, h3⟩, wf⟩
theorem SzX.upP {a : Ad} {H : Hp} {z l p dp y : Addr} {t : Vamvsa.Table} {o : HO} {n c m : Nat} (h : SzX a H z l t) (hp : H p = some (.ins a.c_Played dp (plF y l n c m))) : SzX a (upd H p o) z l t := by
  obtain ⟨⟨dx, lz, h1, h2, h3⟩, wf⟩ := h
  have n1 : z ≠ p := ne_of h1 hp (by
    intro w
    injection w with _ _ w
    injection w with w _
    injection w with w _
    exact absurd w (by decide +kernel))
  exact ⟨⟨dx, lz, by rw [upd_ne n1]; exact h1, by rw [upd_ne (ne_of h2 hp (by intro w; cases w))]; exact h2, h3⟩, wf⟩
structure PlAt (a : Ad) (H : Hp) (p l z : Addr) (t : Vamvsa.Table) (s : Site) (n : Nat) : Prop where
  at_ : ∃ dx, H p = some (.ins a.c_Played dx (plF z l n s.cost s.peak))
  li : H l = some (.lst (vI s.built))
  z : SzX a H z l t
  ok : SiteOk t s
theorem PlAt.ex {a : Ad} {H H' : Hp} {p l z : Addr} {t : Vamvsa.Table} {s : Site} {n : Nat} (h : PlAt a H p l z t s n) (e : Ex H H') : PlAt a H' p l z t s n := by
  obtain ⟨⟨dx, h1⟩, h2, h3, h4⟩ := h
  exact ⟨⟨dx, e _ _ h1⟩, e _ _ h2, h3.ex e, h4⟩
theorem siteBd {t : Vamvsa.Table} {s : Site} (wf : Wf t) (h : SiteOk t s) : Bd t s.built :=
  ⟨h.bd, Nat.le_trans (nodup_lt_len h.nd h.bd) (Nat.le_trans (pow_le16 wf.c4) (by decide))⟩
def sp_Played_play (a : Ad) : Sp := fun vs H Q _ => ∃ (p l z q : Addr) (t : Vamvsa.Table) (s : Site) (n : Nat) (st : Stp), vs = [.ref p, .ref q] ∧ PlAt a H p l z t s n ∧ H q = some (.tup [.int ((stepPair st).1 : Nat), .int (stepPair st).2]) ∧ stepOk t st ∧
  (doStep t s st = none → RetV (.bl false) H Q) ∧ (∀ s', doStep t s st = some s' → ∀ H', PlAt a H' p l z t s' (n + 1) → FrL [p, l] H H' → Q (.bl true) H')
def sp_Played_init (K : PySem.W.Frag) (a : Ad) : Sp := fun vs H Q _ => ∃ (x dx z ks : Addr) (qs : List Addr) (t : Vamvsa.Table) (sts : List Stp), vs = [.ref x, .ref z, .ref ks] ∧ H x = some (.ins a.c_Played dx []) ∧ SzAt a H z t ∧ SqL K H ks (refs qs) ∧ StL H qs sts ∧ (∀ st ∈ sts, stepOk t st) ∧
  ∀ H' l, H l = none → PlAt a H' x l z t (run t sts).1 (run t sts).2 → FrL [x] H H' → Q .non H'
theorem q_asgU2' {K : PySem.W.Frag} {σ : L2.St} {H : Hp} {x v : V} {D : Ends} {tz : TS} {i j m : Nat} {q : Addr} (hq : H q = some (.tup [x, v])) (hv : σ[m]? = some (some (.ref q))) (k : ∀ H1, Ex H H1 → tz D ((σ.set i (some x)).set j (some v)) H1) : tSeq (tAsg (tVar m) (gTup K 2 (gCons (gName i) (gCons (gName j) gNil)))) tz D σ H :=
  ⟨_, hv, q, _, rfl, st_of hq, rfl, _, _, rfl, _, _, rfl, rfl, k H (Ex.refl _)⟩
theorem in_vI (g : Nat) : ∀ l : List Nat, inV (.int (g : Nat)) (vI l) = l.contains g
  | [] => rfl
  | a :: l => by
    have ih := in_vI g l
    show (((a : Nat) : Int) == ((g : Nat) : Int) || inV (.int (g : Nat)) (vI l)) = _
    rw [ih, List.contains_cons]
    congr 1
    rw [Bool.eq_iff_iff, beq_iff_eq, beq_iff_eq]
    omega
theorem flat_vI : ∀ l : List Nat, (vI l).all flatV = true
  | [] => rfl
  | _ :: l => flat_vI l
section
variable {P : Program} {w : World} {K : PySem.W.Frag} {mg : Str → Option Value} {base : Heap} {a : Ad} {H H' : Hp} {σ : L2.St} {D : Ends} {tz : TS} {ta tb te : TE} {z p l : Addr} {t : Vamvsa.Table} {s : Site} {n : Nat}
theorem ev_there {i : Nat} (T : Txt K mg a) (h0 : σ[i]? = some (some (.ref p))) (S : PlAt a H p l z t s n) : Ev (tFld K (tVar i) "there") σ H (.ref l) := by
  obtain ⟨dx, h1⟩ := S.at_
  exact ev_fld (ev_var h0) h1 T.cl_Played T.n_Played_there (plF_there _ _ _ _ _)
theorem rv_max {i j : Nat} : (if ((j : Nat) : Int) > ((i : Nat) : Int) then ((j : Nat) : Int) else ((i : Nat) : Int)) = ((Nat.max i j : Nat) : Int) := by
  show _ = ((max i j : Nat) : Int)
  split <;> omega
theorem in_sites (g : Nat) (bs : List Nat) {x : Addr} (h : H x = some (.lst (vI bs))) : RV (rIn K false) (.int (g : Nat)) (.ref x) H (.bl (bs.contains g)) := by
  have := rv_isL (K := K) (x := .int (g : Nat)) (sq_of h) rfl (flat_vI bs)
  rw [in_vI] at this
  exact this
theorem ni_sites (g : Nat) (bs : List Nat) {x : Addr} (h : H x = some (.lst (vI bs))) : RV (rIn K true) (.int (g : Nat)) (.ref x) H (.bl (!bs.contains g)) := by
  have := rv_niL (K := K) (x := .int (g : Nat)) (sq_of h) rfl (flat_vI bs)
  rw [in_vI] at this
  exact this
theorem map_erase {α β : Type} (f : α → β) : ∀ (l : List α) (j : Nat), (l.map f).eraseIdx j = (l.eraseIdx j).map f
  | [], _ => rfl
  | _ :: _, 0 => rfl
  | a :: l, j + 1 => congrArg (f a :: ·) (map_erase f l j)
theorem s_rem {ta te : TE} {x : Addr} {bs : List Nat} {g : Nat} (hl : H x = some (.lst (vI bs))) (ha : Ev ta σ H (.ref x)) (h : Ev te σ H (.int (g : Nat))) (nd : bs.Nodup) (hm : g ∈ bs) (k : ∀ H1, Ex H H1 → D.nx σ (upd H1 x (.lst (vI (bs.filter fun v => v != g))))) :
    tDrop (tBM K "list" rRemI ta (tCons te tNil)) D σ H := ha H (Ex.refl H) _ fun H1 e1 => ⟨Or.inl ⟨rfl, _, sq_of (e1 _ _ hl)⟩, h H1 e1 _ fun H2 e2 => by
  obtain ⟨j, hj⟩ := List.getElem?_of_mem hm
  have hbl : vI bs = (bs.map fun n : Nat => (n : Int)).map V.int := vI_ints _
  have h2 := (e1.trans e2) _ _ hl
  rw [hbl] at h2
  refine ⟨x, bs.map fun n : Nat => (n : Int), (g : Nat), j, rfl, rfl, h2, by rw [List.getElem?_map, hj]; rfl, fun m hm z => ?_, ?_⟩
  · rw [List.getElem?_map] at z
    cases hmj : bs[m]? with
    | none => rw [hmj] at z; cases z
    | some g2 =>
      rw [hmj] at z
      have hg2 : g2 = g := by
        have := Option.some.inj z
        have : ((g2 : Nat) : Int) = (g : Nat) := this
        omega
      rw [hg2] at hmj
      obtain ⟨a1, a2⟩ := List.getElem?_eq_some_iff.mp hmj
      obtain ⟨b1, b2⟩ := List.getElem?_eq_some_iff.mp hj
      have := (List.getElem_inj nd).mp (a2.trans b2.symm)
      omega
  · have hel : ((bs.map fun n : Nat => (n : Int)).eraseIdx j).map V.int = vI (bs.filter fun v => v != g) := by
      rw [← erase_filter nd hj, map_erase, List.map_map]
      rfl
    rw [hel]
    exact k H2 (e1.trans e2)⟩
theorem ok_Played_play (T : Txt K mg a) : Good P w K mg base 3 a.f_Played_play ["self", "step"] (sp_Played_play a) := by
  obtain ⟨fd, F⟩ := T.F_Played_play
  refine ⟨⟨fd, F.okX sc_Played_play (fun vs H Q E h => ?_) (fun cdv A outer s H vs Q E hr h => ⟨_, (pss_cons (ps_asg (pv 1) (pg_tup rfl (pgs_cons (pg_name (i := 2) sc_Played_play.nd rfl (Or.inl rfl)) (pgs_cons (pg_name (i := 3) sc_Played_play.nd rfl (Or.inl rfl)) pgs_nil))))
    (pss_cons (ps_if (pt_cmpR op_eq (pv 3) (pe_gi rfl T.m_DROPPED) (nomark _))
      (pss_cons (ps_if (pt_cmpR op_notIn_seq (pv 2) (pe_fld (pv 0) rfl) (by rfl))
      (pss_one (ps_ret pe_bl))
      pss_nil)
    (pss_one (ps_expr (pe_bm PySem.F.plainAttrs_list PySem.F.slot_list_remove PySem.F.type_list_remove mt_remove (pe_fld (pv 0) rfl) (pa_cons (pv 2) pa_nil)))))
      (pss_cons (ps_set (i := 4) sc_Played_play.nd rfl (Or.inl rfl) (pe_or (pe_cmpR op_eq (pv 3) (pe_gi rfl T.m_TABLE) (nomark _)) (pe_one (pe_and (pe_cmpR op_in_seq (pv 3) (pe_fld (pv 0) rfl) (by rfl)) (pe_one (pe_g (ok_is_above T) (hr.mono (by decide)) rfl T.m_is_above (E := fun _ => E0) px0 (pa_cons (pv 3) (pa_cons (pv 2) pa_nil))))))))
    (pss_cons (ps_if (PW.pt (pw_or (pt_cmpR op_in_seq (pv 2) (pe_fld (pv 0) rfl) (by rfl)) (pw_or1 (pt_not (pt_val (pv 4))))))
      (pss_one (ps_ret pe_bl))
      pss_nil)
    (pss_cons (ps_expr (pe_bm PySem.F.plainAttrs_list PySem.F.slot_list_append PySem.F.type_list_append mt_append (pe_fld (pv 0) rfl) (pa_cons (pv 2) pa_nil)))
    (pss_one (ps_fldaug (pv 0) (pe_gm (ok_Sizes_build_cost T) (pe_fld (pv 0) rfl) T.cl_Sizes T.me_Sizes_build_cost (hr.mono (by decide)) (E := fun _ => E0) px0 (pa_cons (pv 2) (pa_cons (pv 3) pa_nil))) in_add))))))
    (pss_cons (ps_fldaug (pv 0) pe_int in_add)
    (pss_cons (ps_fld (pv 0) (pe_callB (call_max2 rfl) (by rfl) T.b_max (by decide +kernel) (pa_cons (pe_fld (pv 0) rfl) (pa_cons (pe_gm (ok_Sizes_total T) (pe_fld (pv 0) rfl) T.cl_Sizes T.me_Sizes_total (hr.mono (by decide)) (E := fun _ => E0) px0 (pa_cons (pe_fld (pv 0) rfl) pa_nil)) pa_nil))) rfl)
    (pss_one (ps_ret pe_bl)))))), ?_⟩), F.binds fun _ _ _ _ _ _ us hl => match us, hl with | [_, _], _ => rfl⟩, T.k_Played_play⟩
  · obtain ⟨p, l, z, q, t, s, n, st, rfl, _⟩ := h
    rfl
  · obtain ⟨p, l, z, q, t, s, n, st, rfl, S, hq, hst, kN, kS⟩ := h
    -- what stands at the end
    have fin : ∀ (bs : List Nat) (c : Nat) (x4 : Option V) (H2 : Hp) (dx : Addr), H2 p = some (.ins a.c_Played dx (plF z l n c s.peak)) → H2 l = some (.lst (vI bs)) → SzX a H2 z l t → Bd t bs → FrL [p, l] H H2 →
        (∀ H3, (∃ dx, H3 p = some (.ins a.c_Played dx (plF z l (n + 1) c (Nat.max s.peak (lines t bs))))) → H3 l = some (.lst (vI bs)) → SzX a H3 z l t → FrL [p, l] H H3 → Q (.bl true) H3) →
        tSeq (sFldAug K (tVar 0) (tC (.int 1)) L2.rAdd "steps") (tSeq (sFld K (tVar 0) (tCB rMax2 (tCons (tFld K (tVar 0) "most") (tCons (tGM a.c_Sizes "total" (sp_total K a) (fun _ => E0) (tFld K (tVar 0) "sizes") (tCons (tFld K (tVar 0) "there") tNil)) tNil))) "most") (tRet (tC (.bl true))))
          { nx := fun _ H' => Q .non H', rt := Q } [some (.ref p), some (.ref q), some (.int ((stepPair st).1 : Nat)), some (.int (stepPair st).2), x4] H2 := by
      intro bs c x4 H2 dx h2 hl2 hz2 hb2 f2 k
      have nlp : l ≠ p := ne_of hl2 h2 (by intro w; cases w)
      refine q_fldaug (ev_var rfl) h2 T.cl_Played T.n_Played_steps (by show (5 : Nat) ≤ 900; decide) (plF_steps _ _ _ _ _) ev_c fun H3 e3 => ?_
      rw [plF_psteps z l n c s.peak rfl]
      have h4 : upd H3 p (.ins a.c_Played dx (plF z l (n + 1) c s.peak)) p = some (.ins a.c_Played dx (plF z l (n + 1) c s.peak)) := upd_same
      have hl4 : upd H3 p (.ins a.c_Played dx (plF z l (n + 1) c s.peak)) l = some (.lst (vI bs)) := by rw [upd_ne nlp]; exact e3 _ _ hl2
      have hz4 : SzX a (upd H3 p (.ins a.c_Played dx (plF z l (n + 1) c s.peak))) z l t := (hz2.ex e3).upP (e3 _ _ h2)
      have f4 : FrL [p, l] H (upd H3 p (.ins a.c_Played dx (plF z l (n + 1) c s.peak))) := (f2.trans (FrL.ex e3)).trans (FrL.up (by simp))
      generalize upd H3 p (.ins a.c_Played dx (plF z l (n + 1) c s.peak)) = H4 at h4 hl4 hz4 f4
      obtain ⟨⟨dz, lz, k1, k2, _⟩, _⟩ := id hz4
      refine q_fld (y := .int (Nat.max s.peak (lines t bs) : Nat)) (ev_is (ev_max2 (ev_fld (ev_var rfl) h4 T.cl_Played T.n_Played_most (plF_most _ _ _ _ _)) (ev_gm (ev_fld (ev_var rfl) h4 T.cl_Played T.n_Played_sizes (plF_sizes _ _ _ _ _)) k1 (szF_none _ _ (by decide +kernel) (by decide +kernel)) (ea_cons (ev_fld (ev_var rfl) h4 T.cl_Played T.n_Played_there (plF_there _ _ _ _ _)) ea_nil) fun H5 e5 Q q E => ⟨z, l, t, bs, rfl, hz4.sz.ex e5, sq_of (e5 _ _ hl4), hb2, q⟩)) (congrArg V.int rv_max)) (ev_var rfl) h4 T.cl_Played T.n_Played_most (by show (5 : Nat) ≤ 900; decide) fun H5 e5 => ?_
      rw [plF_pmost]
      refine s_ret ev_c fun H6 e6 => k H6 ⟨dx, e6 _ _ upd_same⟩ (e6 _ _ (by rw [upd_ne nlp]; exact e5 _ _ hl4)) (((hz4.ex e5).upP (e5 _ _ h4)).ex e6) (((f4.trans (FrL.ex e5)).trans (FrL.up (by simp))).trans (FrL.ex e6))
    have bdS := siteBd S.z.wf S.ok
    refine q_asgU2' hq rfl fun H1 e1 => ?_
    have S1 := S.ex e1
    obtain ⟨dx, h1⟩ := S1.at_
    have nlp : l ≠ p := ne_of S1.li h1 (by intro w; cases w)
    have hgb : (stepPair st).1 < 2 ^ width t := by cases st <;> first | exact hst | exact hst.1
    refine q_if (b := decide (V.int (stepPair st).2 = V.int (-2))) (et_test (ev_op (ev_var rfl) ev_c (rv_eq rfl))) (fun hb H2 e2 => ?_) (fun hb H2 e2 => ?_)
    · -- it is dropped
      obtain ⟨g, rfl⟩ : ∃ g, st = .drop g := by
        have h2 : (stepPair st).2 = -2 := V.int.inj (of_decide_eq_true hb)
        cases st with
        | drop g => exact ⟨g, rfl⟩
        | table g => cases h2
        | from_ g u =>
          have h2 : ((u : Nat) : Int) = -2 := h2
          omega
      have S2 := S1.ex e2
      refine q_when (b := !s.built.contains g) (et_test (ev_op (ev_var rfl) (ev_there (i := 0) T rfl S2) (ni_sites g _ S2.li))) (fun hb H3 e3 => ?_) (fun hb H3 e3 => ?_)
      · have hc : s.built.contains g = false := by simpa using hb
        exact s_ret ev_c fun H4 e4 => kN (if_pos hc) H4 (((e1.trans e2).trans e3).trans e4)
      · have hc : s.built.contains g = true := by simpa using hb
        have hds : doStep t s (.drop g) = some { s with built := s.built.filter fun v => v != g } := if_neg (by rw [hc]; decide)
        have S3 := S2.ex e3
        have hmem := List.contains_iff_mem.mp hc
        refine s_rem S3.li (ev_there (i := 0) T rfl S3) (ev_var rfl) S.ok.nd hmem fun H4 e4 => ?_
        have S4 := S3.ex e4
        obtain ⟨dx4, h4⟩ := S4.at_
        have ok' := doStep_ok S.ok hst hds
        refine fin _ s.cost _ _ dx4 (kpI S4.li h4) upd_same (S4.z.upL S4.li) (siteBd S.z.wf ok') ((FrL.ex (((e1.trans e2).trans e3).trans e4)).trans (FrL.up (by simp))) fun H5 ⟨d5, q1⟩ q2 q3 q4 => ?_
        have hpk : Nat.max s.peak (lines t (s.built.filter fun v => v != g)) = s.peak := Nat.max_eq_left (Nat.le_trans (lines_filter t g _) S.ok.pk)
        have hpk2 : Nat.max s.peak (lines t (s.built.filter fun v => v != (stepPair (Vamvsd.Step.drop g)).1)) = s.peak := hpk
        rw [hpk2] at q1
        exact kS _ hds H5 ⟨⟨d5, q1⟩, q2, q3, ok'⟩ q4
    · -- it is built
      have hnd : (stepPair st).2 ≠ -2 := fun z => of_decide_eq_false hb (congrArg V.int z)
      have S2 := S1.ex e2
      have e12 := e1.trans e2
      have S2l := S2.li
      obtain ⟨⟨dz, lz, y1, y2, y3⟩, wf⟩ := id S2.z
      have hgS := hgb
      -- the source, and what is good
      obtain ⟨u, good, hu, hgood, hds⟩ : ∃ (u : Option Nat) (good : Bool), (stepPair st).2 = parentNumber u ∧ (good = (decide (V.int (stepPair st).2 = V.int (-1)) || (match u with | none => false | some v => s.built.contains v && aboveB v (stepPair st).1))) ∧ (srcOk t u ∧ doStep t s st = if s.built.contains (stepPair st).1 = true ∨ good = false then none else some (grown t s (stepPair st).1 u)) := by
        cases st with
        | drop g => exact absurd rfl hnd
        | table g =>
          refine ⟨none, true, rfl, rfl, fun v hv => (nomatch hv), ?_⟩
          show (if s.built.contains g = true then none else some (grown t s g none)) = _
          by_cases hc : s.built.contains g = true
          · rw [if_pos hc, if_pos (.inl hc)]
          · rw [if_neg hc, if_neg (by
              rintro (z | z)
              · exact hc z
              · cases z)]
            rfl
        | from_ g v =>
          refine ⟨some v, s.built.contains v && above t v g, rfl, ?_, fun x hx => by cases hx; exact hst.2, ?_⟩
          · have : decide (V.int (stepPair (.from_ g v)).2 = V.int (-1)) = false := decide_eq_false (by
              intro w
              have w : ((v : Nat) : Int) = -1 := V.int.inj w
              omega)
            rw [this, Bool.false_or]
            show _ = (s.built.contains v && aboveB v g)
            rw [aboveB_eq wf.c4 hst.2 hst.1]
          · show (if s.built.contains g = true ∨ s.built.contains v = false ∨ above t v g = false then none else some (grown t s g (some v))) = _
            by_cases hc : s.built.contains g = true ∨ s.built.contains v = false ∨ above t v g = false
            · rw [if_pos hc, if_pos (by
                rcases hc with z | z | z
                · exact .inl z
                · exact .inr (by rw [z]; rfl)
                · exact .inr (by rw [z, Bool.and_false]))]
            · rw [if_neg hc, if_neg (by
                rintro (z | z)
                · exact hc (.inl z)
                · rw [Bool.and_eq_false_iff] at z
                  exact hc (.inr z))]
              rfl
      have hev : Ev (tOrV (tOp rEq (tVar 3) (tC (.int (-1)))) (tAndV (tOp (rIn K false) (tVar 3) (tFld K (tVar 0) "there")) (tG sp_is_above (fun _ => E0) (tCons (tVar 3) (tCons (tVar 2) tNil))))) [some (.ref p), some (.ref q), some (.int ((stepPair st).1 : Nat)), some (.int (stepPair st).2), none] H2 (.bl good) := by
        rw [hgood]
        refine ev_orV (ev_op (ev_var rfl) ev_c (rv_eq rfl)) fun hne => ?_
        cases u with
        | none =>
          rw [hu] at hne
          cases hne
        | some v =>
          rw [hu]
          exact ev_andV (ev_op (ev_var rfl) (ev_there (i := 0) T rfl S2) (in_sites v _ S2.li)) fun _ => ev_g (ea_cons (ev_var rfl) (ea_cons (ev_var rfl) ea_nil)) spv_above
      refine q_asg hev fun H3 e3 => ?_
      have S3 := S2.ex e3
      refine q_when (b := s.built.contains (stepPair st).1 || !good) (et_or (et_test (ev_op (ev_var rfl) (ev_there (i := 0) T rfl S3) (in_sites _ _ S3.li))) fun _ => et_not (et_B (ev_var rfl))) (fun hb H4 e4 => ?_) (fun hb H4 e4 => ?_)
      · refine s_ret ev_c fun H5 e5 => kN ?_ H5 (((e12.trans e3).trans e4).trans e5)
        rw [hds.2, if_pos]
        simpa using hb
      · have hcn : s.built.contains (stepPair st).1 = false ∧ good = true := by simpa using hb
        have hds2 : doStep t s st = some (grown t s (stepPair st).1 u) := by
          rw [hds.2, if_neg]
          rintro (z | z)
          · rw [hcn.1] at z; cases z
          · rw [hcn.2] at z; cases z
        have ok' := doStep_ok S.ok hst hds2
        have S4 := S3.ex e4
        refine q_app (K := K) S4.li (ev_there (i := 0) T rfl S4) (ev_var rfl) (by rw [vI_len]; have := (siteBd wf S.ok).2; omega) fun H5 e5 => ?_
        have S5 := S4.ex e5
        obtain ⟨dx5, h5⟩ := S5.at_
        have hz6 : SzX a (upd H5 l (.lst (vI s.built ++ [.int ((stepPair st).1 : Nat)]))) z l t := S5.z.upL S5.li
        have hl6 : upd H5 l (.lst (vI s.built ++ [.int ((stepPair st).1 : Nat)])) l = some (.lst (vI (s.built ++ [(stepPair st).1]))) := by rw [upd_same, vI_snoc]
        have hp6 : upd H5 l (.lst (vI s.built ++ [.int ((stepPair st).1 : Nat)])) p = some (.ins a.c_Played dx5 (plF z l n s.cost s.peak)) := kpI S5.li h5
        have f6 : FrL [p, l] H (upd H5 l (.lst (vI s.built ++ [.int ((stepPair st).1 : Nat)]))) := (FrL.ex (((e12.trans e3).trans e4).trans e5)).trans (FrL.up (by simp))
        generalize upd H5 l (.lst (vI s.built ++ [.int ((stepPair st).1 : Nat)])) = H6 at hz6 hl6 hp6 f6
        obtain ⟨⟨dz6, lz6, k1, k2, _⟩, _⟩ := id hz6
        refine s_fldaug (j := (oneCost t u (stepPair st).1 : Nat)) (ev_var rfl) hp6 T.cl_Played T.n_Played_cost (by show (5 : Nat) ≤ 900; decide) (plF_cost _ _ _ _ _) (ev_gm (ev_fld (ev_var rfl) hp6 T.cl_Played T.n_Played_sizes (plF_sizes _ _ _ _ _)) k1 (szF_none _ _ (by decide +kernel) (by decide +kernel)) (ea_cons (ev_var rfl) (ea_cons (ev_var rfl) ea_nil)) fun H7 e7 Q q E => ⟨z, t, u, (stepPair st).1, by rw [hu], hz6.sz.ex e7, hds.1, hgS, q⟩) fun H7 e7 => ?_
        rw [plF_pcost]
        have nlp6 : l ≠ p := ne_of hl6 hp6 (by intro w; cases w)
        refine fin _ (s.cost + oneCost t u (stepPair st).1) _ _ dx5 upd_same (by rw [upd_ne nlp6]; exact e7 _ _ hl6) ((hz6.ex e7).upP (e7 _ _ hp6)) (siteBd wf ok') ((f6.trans (FrL.ex e7)).trans (FrL.up (by simp))) fun H8 q1 q2 q3 q4 => kS _ hds2 H8 ⟨q1, q2, q3, ok'⟩ q4
end
end BA

namespace BA
open PySem PySem.Spec PyProof.Rows L2 Evl
open Vamvsa (width sizeOf_)
open Vamvsd (Site doStep runBy run)

theorem sqL_fr {K : PySem.W.Frag} {H H' : Hp} {p b C dx : Addr} {fs : List (Str × V)} {xs : List V} (h : SqL K H b xs) (hp : H p = some (.ins C dx fs)) (f : FrL [p] H H') : SqL K H' b xs := by
  rcases h with (h | ⟨o, h⟩) | h
  · exact .inl (.inl (f _ _ h (by simpa using ne_of h hp (by intro w; cases w))))
  · exact .inl (.inr ⟨o, f _ _ h (by simpa using ne_of h hp (by intro w; cases w))⟩)
  · exact .inr h
theorem StL.fr {H H' : Hp} {p C dx : Addr} {fs : List (Str × V)} {qs : List Addr} {sts : List Stp} (h : StL H qs sts) (hp : H p = some (.ins C dx fs)) (f : FrL [p] H H') : StL H' qs sts :=
  prs_imp (fun q st z => f _ _ z (by simpa using ne_of z hp (by intro w; cases w))) h
theorem FrL.drop2 {H H' : Hp} {p l : Addr} (f : FrL [p, l] H H') (h : H l = Option.none) : FrL [p] H H' := fun b o hb n => f b o hb (by
  have n1 : b ≠ p := by simpa using n
  have n2 : b ≠ l := ne_of_none hb h
  simp [n1, n2])
section
variable {P : Program} {w : World} {K : PySem.W.Frag} {mg : Str → Option Value} {base : Heap} {a : Ad}
theorem run_cons {t : Vamvsa.Table} {n : Nat} {s : Site} {st : Stp} {r : List Stp} : runBy t n s (st :: r) = match doStep t s st with
    | none => (s, n)
    | some u => runBy t (n + 1) u r := rfl
theorem ok_Played_init (T : Txt K mg a) : Good P w K mg base 4 a.f_Played_init ["self", "sizes", "steps"] (sp_Played_init K a) := by
  obtain ⟨fd, F⟩ := T.F_Played_init
  refine ⟨⟨fd, F.okX sc_Played_init (fun vs H Q E h => ?_) (fun cdv A outer s H vs Q E hr h => ⟨_, (pss_cons (ps_fld (pv 0) (pv 1) rfl)
    (pss_cons (ps_fld (pv 0) pe_int rfl)
    (pss_cons (ps_fld (pv 0) pe_int rfl)
    (pss_cons (ps_fld (pv 0) pe_int rfl)
    (pss_cons (ps_fld (pv 0) (pe_lst pa_nil) rfl)
    (pss_cons (ps_set (i := 3) sc_Played_init.nd rfl (Or.inl rfl) pe_bl)
    (pss_one (ps_for (passes_of rfl) rfl (pi_list (pv 2)) (pg_name (i := 4) sc_Played_init.nd rfl (Or.inl rfl))
      (pss_one (ps_set (i := 3) sc_Played_init.nd rfl (Or.inl rfl) (pe_and (pv 3) (pe_one (pe_gm (ok_Played_play T) (pv 0) T.cl_Played T.me_Played_play (hr.mono (by decide)) (E := fun _ => E0) px0 (pa_cons (pv 4) pa_nil)))))))))))))), ?_⟩), F.binds fun _ _ _ _ _ _ us hl => match us, hl with | [_, _, _], _ => rfl⟩, T.k_Played_init⟩
  · obtain ⟨x, dx, z, ks, qs, t, sts, rfl, _⟩ := h
    rfl
  · obtain ⟨x, dx, z, ks, qs, t, sts, rfl, hx, SZ, hk, hst, hok, k⟩ := h
    refine q_fld (ev_var rfl) (ev_var rfl) hx T.cl_Played T.n_Played_sizes (by decide) fun H1 e1 => ?_
    refine q_fld ev_c (ev_var rfl) upd_same T.cl_Played T.n_Played_steps (by show (1 : Nat) ≤ 900; decide) fun H2 e2 => ?_
    refine q_fld ev_c (ev_var rfl) upd_same T.cl_Played T.n_Played_cost (by show (2 : Nat) ≤ 900; decide) fun H3 e3 => ?_
    refine q_fld ev_c (ev_var rfl) upd_same T.cl_Played T.n_Played_most (by show (3 : Nat) ≤ 900; decide) fun H4 e4 => ?_
    have f4 : FrL [x] H (upd H4 x (.ins a.c_Played dx (putF "most" (.int 0) (putF "cost" (.int 0) (putF "steps" (.int 0) (putF "sizes" (.ref z) [])))))) :=
      ((((FrL.ex e1).trans (FrL.up (by simp))).trans ((FrL.ex e2).trans (FrL.up (by simp)))).trans ((FrL.ex e3).trans (FrL.up (by simp)))).trans ((FrL.ex e4).trans (FrL.up (by simp)))
    have h4 : upd H4 x (.ins a.c_Played dx (putF "most" (.int 0) (putF "cost" (.int 0) (putF "steps" (.int 0) (putF "sizes" (.ref z) []))))) x = some (.ins a.c_Played dx (putF "most" (.int 0) (putF "cost" (.int 0) (putF "steps" (.int 0) (putF "sizes" (.ref z) []))))) := upd_same
    generalize upd H4 x (.ins a.c_Played dx (putF "most" (.int 0) (putF "cost" (.int 0) (putF "steps" (.int 0) (putF "sizes" (.ref z) []))))) = H5 at f4 h4
    refine q_fldL (el_lst ea_nil (by decide)) (ev_var rfl) h4 T.cl_Played T.n_Played_there (by show (4 : Nat) ≤ 900; decide) fun l H6 hl e6 h6 => ?_
    have nlx : l ≠ x := (ne_of_none h4 hl).symm
    have hl0 : H l = none := f4.none hl (by simpa using nlx)
    have f6 : FrL [x] H (upd H6 x (.ins a.c_Played dx (putF "there" (.ref l) (putF "most" (.int 0) (putF "cost" (.int 0) (putF "steps" (.int 0) (putF "sizes" (.ref z) []))))))) := (f4.trans (FrL.ex e6)).trans (FrL.up (by simp))
    have P0 : PlAt a (upd H6 x (.ins a.c_Played dx (putF "there" (.ref l) (putF "most" (.int 0) (putF "cost" (.int 0) (putF "steps" (.int 0) (putF "sizes" (.ref z) []))))))) x l z t ⟨[], 0, 0⟩ 0 := by
      obtain ⟨⟨dz, lz, k1, k2⟩, wf⟩ := SZ
      have n1 : z ≠ x := ne_of k1 hx (by
        intro w
        injection w with _ _ w
        cases w)
      have n2 : lz ≠ x := ne_of k2 hx (by intro w; cases w)
      refine ⟨⟨dx, upd_same⟩, by rw [upd_ne nlx]; exact h6, ⟨⟨dz, lz, f6 _ _ k1 (by simpa using n1), f6 _ _ k2 (by simpa using n2), ne_of_none k2 hl0⟩, wf⟩, ⟨List.nodup_nil, fun g hg => (by cases hg), Nat.le_refl _⟩⟩
    generalize upd H6 x (.ins a.c_Played dx (putF "there" (.ref l) (putF "most" (.int 0) (putF "cost" (.int 0) (putF "steps" (.int 0) (putF "sizes" (.ref z) [])))))) = H7 at f6 P0
    refine q_asg ev_c fun H8 e8 => ?_
    refine s_forLn (xs := refs qs) (ev_var rfl) (sqL_fr hk hx (f6.trans (FrL.ex e8))) (fun i σ' H' => ∃ (going : Bool) (x4 : Option V) (s : Site) (n : Nat), σ' = [some (.ref x), some (.ref z), some (.ref ks), some (.bl going), x4] ∧ PlAt a H' x l z t s n ∧ FrL [x] H H' ∧ (if going = true then runBy t n s (sts.drop i) = run t sts else (s, n) = run t sts))
      (fun H9 e9 => ⟨true, none, _, _, rfl, (P0.ex e8).ex e9, (f6.trans (FrL.ex e8)).trans (FrL.ex e9), rfl⟩) (fun i σ' H' _ ⟨_, _, _, _, _, _, f, _⟩ => sqL_fr hk hx f) (fun i y σ' H' hi ⟨going, x4, s, n, hσ, PL, f, hres⟩ => ?_) (fun σ' H' ⟨going, x4, s, n, hσ, PL, f, hres⟩ => ?_)
    · subst hσ
      unfold refs at hi
      rw [List.getElem?_map] at hi
      cases hq : qs[i]? with
      | none => rw [hq] at hi; cases hi
      | some q =>
        rw [hq] at hi
        cases hi
        obtain ⟨st, hs, hqt⟩ := prs_getL (hst.fr hx f) hq
        have hdrop : sts.drop i = st :: sts.drop (i + 1) := by
          rw [List.drop_eq_getElem_cons (List.getElem?_eq_some_iff.mp hs).1, (List.getElem?_eq_some_iff.mp hs).2]
        refine s_asgR ?_
        cases going with
        | false =>
          refine ⟨_, rfl, false, rfl, if_f rfl ?_⟩
          exact ⟨false, _, s, n, rfl, PL, f, hres⟩
        | true =>
          rw [hdrop, run_cons] at hres
          obtain ⟨d2, hp2⟩ := PL.at_
          refine ⟨_, rfl, true, rfl, if_t rfl ?_⟩
          refine ⟨_, rfl, x, d2, _, rfl, hp2, plF_play _ _ _ _ _, _, rfl, x, l, z, q, t, s, n, st, rfl, PL, hqt, hok st (List.mem_of_getElem? hs), fun hn H9 e9 => ?_, fun s' hs' H9 PL9 f9 => ?_⟩
          · rw [hn] at hres
            exact ⟨false, _, s, n, rfl, PL.ex e9, f.trans (FrL.ex e9), hres⟩
          · rw [hs'] at hres
            refine ⟨true, _, s', n + 1, rfl, PL9, fun b o hb nb => ?_, hres⟩
            have nb' : b ≠ x := by simpa using nb
            exact f9 b o (f b o hb nb) (by simp [nb', ne_of_none hb hl0])
    · subst hσ
      have e : (s, n) = run t sts := by
        cases going with
        | false => exact hres
        | true =>
          have hql : (refs qs).length = sts.length := by rw [refs_len]; exact prs_len hst
          rw [hql, List.drop_length] at hres
          exact hres
      have e1 := congrArg Prod.fst e
      have e2 := congrArg Prod.snd e
      refine k H' l hl0 ?_ f
      rw [← e]
      exact PL
end
end BA

namespace BA
open PySem PySem.Spec PyProof.Rows L2 Evl
open VamvsBase (Bytes)
open Vamvsa (columnsOf width sizeOf_)
open Vamvsd (parentNumber parentOf readOf oneCost buildCost lines Helpers helpersLess bestHelpers)

/-! ### lists of lists of numbers -/
def LsL (ex : List Addr) (H : Hp) (rs : List V) (ls : List (List Nat)) : Prop := Paired (fun v s => ∃ q, v = V.ref q ∧ q ∉ ex ∧ H q = some (.lst (vI s))) rs ls
theorem prs_app {α β : Type} {R : α → β → Prop} {a c : List α} {b d : List β} (h : Paired R a b) (k : Paired R c d) : Paired R (a ++ c) (b ++ d) := by
  induction h with
  | nil => exact k
  | cons h _ ih => exact .cons h ih
theorem prs_at {α β : Type} {R : α → β → Prop} {a : List α} {b : List β} {i : Nat} {x : α} (h : Paired R a b) (hi : a[i]? = some x) : ∃ y, b[i]? = some y ∧ R x y := by
  induction h generalizing i with
  | nil => cases hi
  | cons hh _ ih =>
    cases i with
    | zero => cases hi; exact ⟨_, rfl, hh⟩
    | succ i => exact ih hi
section
variable {ex ex' : List Addr} {H H' : Hp} {rs rs' : List V} {ls ls' : List (List Nat)}
theorem LsL.fr (h : LsL ex H rs ls) (f : FrL ex H H') : LsL ex H' rs ls := prs_imp (fun _ _ ⟨q, e, n, hq⟩ => ⟨q, e, n, f _ _ hq n⟩) h
theorem LsL.keep (h : LsL ex H rs ls) (f : Ex H H') : LsL ex H' rs ls := h.fr (FrL.ex f)
theorem LsL.re (h : LsL ex H rs ls) (f : ∀ b ∈ ex', b ∈ ex ∨ H b = none) : LsL ex' H rs ls := prs_imp (fun _ _ ⟨q, e, n, hq⟩ => ⟨q, e, fun z => (f q z).elim n (fun w => nomatch w.symm.trans hq), hq⟩) h
theorem LsL.app (h : LsL ex H rs ls) (k : LsL ex H rs' ls') : LsL ex H (rs ++ rs') (ls ++ ls') := prs_app h k
end
def NewL (H1 : Hp) (d : Addr) (H2 : Hp) (ys : List V) (ls : List (List Nat)) : Prop := Paired (fun y s => ∃ q, y = V.ref q ∧ H1 q = none ∧ q ≠ d ∧ H2 q = some (.lst (vI s))) ys ls
def EvLQ (te : TE) (σ : L2.St) (H : Hp) (ls : List (List Nat)) : Prop := ∀ H1, Ex H H1 → ∀ Q : VK, (∀ p ys H2, H1 p = none → Ex H1 H2 → H2 p = some (.lst ys) → NewL H1 p H2 ys ls → Q (.ref p) H2) → te σ H1 Q
theorem vI_mem {S : List Nat} {i : Nat} {x : V} (h : (vI S)[i]? = some x) : ∃ n, S[i]? = some n ∧ n ∈ S ∧ x = .int (n : Nat) := by
  obtain ⟨n, h1, h2⟩ := vI_get h
  exact ⟨n, h1, List.mem_of_getElem? h1, h2⟩
section
variable {K : PySem.W.Frag} {σ : L2.St} {H H' : Hp} {ta tb te tl : TE} {x y z v : V} {D : Ends} {tu tw tz : TS} {tg : TG}
theorem elp_lcLL {a : Addr} {S : List Nat} {j : Nat} {vs : List Nat} {t : TT} (f : Nat → Bool) (g : Nat → List Nat) (h : Ev tl σ H (.ref a)) (hx : SqL K H a (vI S)) (hz : S.length ≤ 40000) (hw : ∀ x, wipe ((wipe σ vs).set j (some x)) vs = wipe σ vs)
    (ht : ∀ (n : Nat) H1, Ex H H1 → n ∈ S → EvT t ((wipe σ vs).set j (some (.int (n : Nat)))) H1 (f n)) (he : ∀ (n : Nat) H1, Ex H H1 → n ∈ S → f n = true → EvL te ((wipe σ vs).set j (some (.int (n : Nat)))) H1 (vI (g n))) :
    EvLQ (tLc (iList K tl) (gName j) t te vs) σ H ((S.filter f).map g) := fun H0 e Q q => h H0 e _ fun H1 e1 => ⟨a, rfl, ⟨vI S, ex_l (e.trans e1) hx⟩, fun Dl hD =>
  lc_list (xs := vI S) (fun i H' => Ex H1 H' ∧ i ≤ S.length ∧ ∃ ys, H' Dl = some (.lst ys) ∧ ys.length ≤ i ∧ NewL H0 Dl H' ys (((S.take i).filter f).map g))
    ⟨Ex.new hD, Nat.zero_le _, [], upd_same, Nat.le_refl _, .nil⟩ (fun i H' _ p => ex_l ((e.trans e1).trans p.1) hx)
    (fun i x H' hi ⟨p1, hil, ys, p2, p4, p3⟩ => ⟨hw x, by
      obtain ⟨n, hn, hm, rfl⟩ := vI_mem hi
      have hlt := (List.getElem?_eq_some_iff.mp hn).1
      refine ht n H' ((e.trans e1).trans p1) hm H' (Ex.refl _) _ fun H3 e3 => ?_
      have tk : ∀ b, f n = b → ((S.take (i + 1)).filter f).map g = ((S.take i).filter f).map g ++ (if b = true then [g n] else []) := fun b hb => by
        rw [List.take_succ, hn, List.filter_append, List.map_append]
        congr 1
        cases b
        · show (List.filter f [n]).map g = _
          rw [List.filter_cons, hb]
          rfl
        · show (List.filter f [n]).map g = _
          rw [List.filter_cons, hb]
          rfl
      cases hf : f n with
      | false =>
        refine if_f rfl ⟨p1.trans e3, hlt, ys, e3 _ _ p2, by omega, ?_⟩
        rw [tk _ hf]
        simp only [Bool.false_eq_true, if_false, List.append_nil]
        exact prs_imp (fun _ _ ⟨q, e, n, m, hq⟩ => ⟨q, e, n, m, e3 _ _ hq⟩) p3
      | true =>
        refine if_t rfl (he n H3 (((e.trans e1).trans p1).trans e3) hm hf H3 (Ex.refl _) _ fun r H4 hr e4 h4 => ?_)
        have p2' := e4 _ _ (e3 _ _ p2)
        have nr : r ≠ Dl := (ne_of_none (e3 _ _ p2) hr).symm
        refine ⟨ys, p2', sz_lt (by omega), Ex.mut ((p1.trans e3).trans e4) hD, hlt, _, upd_same, by simp; omega, ?_⟩
        rw [tk _ hf]
        refine prs_app (prs_imp (fun _ _ ⟨q, e, n, m, hq⟩ => ⟨q, e, n, m, by rw [upd_ne m]; exact e4 _ _ (e3 _ _ hq)⟩) p3) (.cons ⟨r, rfl, fresh_back (((e1.trans p1).trans e3)) hr, nr, by rw [upd_ne nr]; exact h4⟩ .nil)⟩)
    (fun H' ⟨p1, _, ys, p2, _, p3⟩ => q Dl ys H' (fresh_back e1 hD) (e1.trans p1) p2 (by
      have e9 : (vI S).length = S.length := vI_len S
      rw [e9, List.take_length] at p3
      exact p3))⟩
theorem s_extQ {l : Addr} {xs : List V} {ls : List (List Nat)} (hl : H l = some (.lst xs)) (ha : Ev ta σ H (.ref l)) (h : EvLQ te σ H ls) (hz : xs.length + ls.length ≤ 100000)
    (k : ∀ H1 H2 ys p, Ex H H1 → Ex H1 H2 → NewL H1 p H2 ys ls → D.nx σ (upd H2 l (.lst (xs ++ ys)))) :
    tDrop (tBM K "list" rExtend ta (tCons te tNil)) D σ H := ha H (Ex.refl H) _ fun H1 e1 =>
  ⟨Or.inl ⟨rfl, xs, sq_of (e1 l _ hl)⟩, h H1 e1 _ fun p ys H2 hp e2 h2 hn => ⟨l, p, xs, ys, rfl, rfl, (e1.trans e2) l _ hl, h2, sz_of (by rw [prs_len hn]; exact hz), k H1 H2 ys p e1 e2 hn⟩⟩
/-- xs.extend(a list that stands) -/
theorem q_extV {l p : Addr} {xs ys : List V} (hl : H l = some (.lst xs)) (ha : Ev ta σ H (.ref l)) (h : Ev te σ H (.ref p)) (hp : H p = some (.lst ys)) (hz : xs.length + ys.length ≤ 100000) (k : ∀ H1, Ex H H1 → tz D σ (upd H1 l (.lst (xs ++ ys)))) :
    tSeq (tDrop (tBM K "list" rExtend ta (tCons te tNil))) tz D σ H := ha H (Ex.refl H) _ fun H1 e1 =>
  ⟨Or.inl ⟨rfl, xs, sq_of (e1 l _ hl)⟩, h H1 e1 _ fun H2 e2 => ⟨l, p, xs, ys, rfl, rfl, (e1.trans e2) l _ hl, (e1.trans e2) _ _ hp, sz_of hz, k H2 (e1.trans e2)⟩⟩
theorem q_forLP {P : List V → Hp → Prop} {j : Nat} (h : EvLP tl σ H P) (Pv : List V → Addr → Nat → L2.St → Hp → Prop) (h0 : ∀ xs p H1, H p = none → Ex H H1 → H1 p = some (.lst xs) → P xs H1 → Pv xs p 0 σ H1)
    (hl : ∀ xs p i σ' H', i ≤ xs.length → Pv xs p i σ' H' → SqL K H' p xs)
    (hs : ∀ xs p i x σ' H', xs[i]? = some x → Pv xs p i σ' H' → tu { D with nx := Pv xs p (i + 1), ct := Pv xs p (i + 1), bk := tz D } (σ'.set j (some x)) H') (hd : ∀ xs p σ' H', Pv xs p xs.length σ' H' → tz D σ' H') : tSeq (tFor (iList K tl) (gName j) tu) tz D σ H :=
  h H (Ex.refl _) _ fun p xs H1 hp e h1 hP => ⟨p, rfl, ⟨xs, sq_of h1⟩, for_list (D := { D with nx := tz D }) (Pv xs p) (h0 xs p H1 hp e h1 hP) (hl xs p) (hs xs p) (hd xs p)⟩
/-- [[]] -/
theorem s_lst1 {ys : List V} (h : EvL te σ H ys) : ∀ H1, Ex H H1 → ∀ Q : VK, (∀ p q H2, H1 p = none → H1 q = none → p ≠ q → Ex H1 H2 → H2 p = some (.lst [.ref q]) → H2 q = some (.lst ys) → Q (.ref p) H2) → tLst (tCons te tNil) σ H1 Q := fun H1 e Q k =>
  h H1 e _ fun q H2 hq e2 h2 => ⟨(by show 1 ≤ sizeLine; decide), fun p hp => k p q _ (fresh_back e2 hp) hq (ne_of_none h2 hp).symm (e2.trans (Ex.new hp)) upd_same (by rw [upd_ne (ne_of_none h2 hp)]; exact h2)⟩
theorem s_parVV {i j : Nat} (ha : Ev ta σ H x) (hb : Ev tb σ H v) (k : ∀ H1, Ex H H1 → D.nx ((σ.set i (some x)).set j (some v)) H1) : tPar i j (tCons ta (tCons tb tNil)) D σ H :=
  ha H (Ex.refl H) _ fun H1 e1 => hb H1 e1 _ fun H2 e2 => ⟨_, _, rfl, k H2 (e1.trans e2)⟩
def Ev11 (te : TE) (σ : L2.St) (H : Hp) : Prop := ∀ H1, Ex H H1 → ∀ Q : VK, (∀ p q H2, H1 p = none → H1 q = none → p ≠ q → Ex H1 H2 → H2 p = some (.lst [.ref q]) → H2 q = some (.lst []) → Q (.ref p) H2) → te σ H1 Q
theorem q_par11 {i j : Nat} (ha : Ev11 ta σ H) (hb : Ev11 tb σ H) (k : ∀ fo f1 la l1 H1, H fo = none → fo ≠ f1 → la ≠ fo → l1 ≠ fo → Ex H H1 → H1 fo = some (.lst [.ref f1]) → H1 f1 = some (.lst []) → H1 la = some (.lst [.ref l1]) → H1 l1 = some (.lst []) → tz D ((σ.set i (some (.ref fo))).set j (some (.ref la))) H1) :
    tSeq (tPar i j (tCons ta (tCons tb tNil))) tz D σ H :=
  ha H (Ex.refl _) _ fun fo f1 H1 nfo nf1 nff e1 hfo hf1 => hb H1 e1 _ fun la l1 H2 nla nl1 nll e2 hla hl1 =>
    ⟨_, _, rfl, k fo f1 la l1 H2 nfo nff (ne_of_none hfo nla).symm (ne_of_none hfo nl1).symm (e1.trans e2) (e2 _ _ hfo) (e2 _ _ hf1) hla hl1⟩
theorem ni_sitesQ (g : Nat) (bs : List Nat) {x : Addr} (h : SqL K H x (vI bs)) : RV (rIn K true) (.int (g : Nat)) (.ref x) H (.bl (!bs.contains g)) := by
  have := rv_niL (K := K) (x := .int (g : Nat)) h rfl (flat_vI bs)
  rw [in_vI] at this
  exact this
theorem in_sitesQ (g : Nat) (bs : List Nat) {x : Addr} (h : SqL K H x (vI bs)) : RV (rIn K false) (.int (g : Nat)) (.ref x) H (.bl (bs.contains g)) := by
  have := rv_isL (K := K) (x := .int (g : Nat)) h rfl (flat_vI bs)
  rw [in_vI] at this
  exact this
end
theorem ext_len (S row : List Nat) : (extend S row).length ≤ S.length := by
  unfold extend
  rw [List.length_map]
  exact List.length_filter_le _ _
theorem fm_len {S : List Nat} : ∀ L : List (List Nat), (L.flatMap (extend S)).length ≤ L.length * S.length
  | [] => by simp
  | r :: L => by
    rw [List.flatMap_cons, List.length_append, List.length_cons, Nat.add_mul]
    have := ext_len S r
    have := fm_len (S := S) L
    omega
theorem lev_len {S : List Nat} (h : S.length ≤ 16) : ∀ k, (levels S k).length ≤ 16 ^ k
  | 0 => Nat.le_refl _
  | k + 1 => by
    show ((levels S k).flatMap (extend S)).length ≤ _
    have a := fm_len (S := S) (levels S k)
    have b := lev_len h k
    have c : (levels S k).length * S.length ≤ 16 ^ k * 16 := Nat.mul_le_mul b h
    rw [Nat.pow_succ]
    omega
theorem up_len {S : List Nat} (h : S.length ≤ 16) : ∀ k, k ≤ 3 → (setsUp S k).length ≤ 5000 * (k + 1)
  | 0, _ => by show 1 ≤ _; omega
  | k + 1, hk => by
    show (setsUp S k ++ levels S (k + 1)).length ≤ _
    rw [List.length_append]
    have a := up_len h k (by omega)
    have b := lev_len h (k + 1)
    have c : 16 ^ (k + 1) ≤ 16 ^ 3 := Nat.pow_le_pow_right (by decide) hk
    have d : 16 ^ 3 = 4096 := rfl
    omega
def sp_sets_of (K : PySem.W.Frag) : Sp := fun vs H Q _ => ∃ (p : Addr) (S : List Nat), vs = [.ref p] ∧ SqL K H p (vI S) ∧ S.length ≤ 16 ∧
  ∀ l rs H', H l = none → Ex H H' → H' l = some (.lst rs) → LsL [] H' rs (setsUp S 3) → Q (.ref l) H'
def sp_best_helpers (a : Ad) : Sp := fun vs H Q _ => ∃ (z p : Addr) (t : Vamvsa.Table) (S : List Nat), vs = [.ref z, .ref p] ∧ SzAt a H z t ∧ H p = some (.lst (vI S)) ∧ (Vamvsa.groupings t).filter (fun g => S.contains g) = S ∧
  ∀ q H', Ex H H' → H' q = some (.lst (vI (bestHelpers t S).hs)) → Q (.ref q) H'
theorem at_last (row : List Nat) (h : row ≠ []) : atI (vI row) (-1) = some (.int (row.getLastD 0 : Nat)) := by
  have hl : 0 < row.length := List.length_pos_iff.mpr h
  unfold atI ixN
  rw [if_neg (by decide), vI_len, if_pos (by omega)]
  show (vI row)[(((-1 : Int) + (row.length : Nat)).toNat)]? = _
  rw [show (((-1 : Int) + (row.length : Nat)).toNat) = row.length - 1 by omega]
  unfold vI
  rw [List.getElem?_map, ← List.getLast?_eq_getElem?, List.getLastD_eq_getLast?, List.getLast?_eq_some_getLast h]
  rfl
section
variable {P : Program} {w : World} {K : PySem.W.Frag} {mg : Str → Option Value} {base : Heap} {a : Ad} {H H' : Hp} {σ : L2.St} {D : Ends} {tz : TS} {ta tb te : TE}
theorem ok_sets_of (T : Txt K mg a) : Good P w K mg base 1 a.f_sets_of ["some"] (sp_sets_of K) := by
  obtain ⟨fd, F⟩ := T.F_sets_of
  refine ⟨⟨fd, F.okX sc_sets_of (fun vs H Q E h => ?_) (fun cdv A outer s H vs Q E hr h => ⟨_, (pss_cons (ps_par (i := 1) (j := 2) (by rfl) sc_sets_of.nd rfl rfl (by decide) rfl rfl (pa_cons (pe_lst (pa_cons (pe_lst pa_nil) pa_nil)) (pa_cons (pe_lst (pa_cons (pe_lst pa_nil) pa_nil)) pa_nil)) (by rfl))
    (pss_cons (ps_for (passes_of rfl) rfl (pi_range1 rfl T.b_range (pa_cons (pe_gi rfl T.m_MOST_HELPERS) pa_nil)) (pg_name (i := 3) sc_sets_of.nd rfl (Or.inl rfl))
      (pss_cons (ps_set (i := 4) sc_sets_of.nd rfl (Or.inl rfl) (pe_lst pa_nil))
    (pss_cons (ps_for (passes_of rfl) rfl (pi_list (pv 2)) (pg_name (i := 5) sc_sets_of.nd rfl (Or.inr rfl))
      (pss_one (ps_expr (pe_bm PySem.F.plainAttrs_list PySem.F.slot_list_extend PySem.F.type_list_extend mt_extend (pv 4) (pa_cons (pe_lc (own := [("one", 6)]) rfl sc_sets_of.nd (pi_list (pv 0)) (blkOk_by (own := [("one", 6)]) (N := ["some", "found", "last", "turn", "longer", "row", "one"]) (sc := defScope s_sets_of) (by decide +kernel)) (fun _ _ _ _ _ => (pg_name (i := 6) sc_sets_of.nd rfl (Or.inl rfl))) (fun _ _ _ _ _ => (pts_one (PW.pt (pw_or (pt_cmpR (op_eqDK (K := K) hr.units) (pv 5) (pe_lst pa_nil) (nomark _)) (pw_or1 (pt_cmpR op_gt (pv 6) (pe_ix (ix_listK (K := K)) (pv 5) (pe_un un_neg pe_int) (fun _ _ => rfl)) (nomark _))))))) (fun _ _ _ _ _ => (pe_op op_cat (pv 5) (pe_lst (pa_cons (pv 6) pa_nil))))) pa_nil)))))
    (pss_cons (ps_expr (pe_bm PySem.F.plainAttrs_list PySem.F.slot_list_extend PySem.F.type_list_extend mt_extend (pv 1) (pa_cons (pv 4) pa_nil)))
    (pss_one (ps_set (i := 2) sc_sets_of.nd rfl (Or.inl rfl) (pv 4)))))))
    (pss_one (ps_ret (pv 1))))), ?_⟩), F.binds fun _ _ _ _ _ _ us hl => match us, hl with | [_], _ => rfl⟩, T.k_sets_of⟩
  · obtain ⟨p, S, rfl, _⟩ := h
    rfl
  · obtain ⟨p, S, rfl, hp, hS, k⟩ := h
    refine q_par11 (s_lst1 (el_lst ea_nil (by decide))) (s_lst1 (el_lst ea_nil (by decide))) fun fo f1 la l1 H2 nfo nff n1 n2 e2 hfo2 hf2 hla hl1 => ?_
    refine q_forR1 (n := 3) (ea_cons ev_c ea_nil) (by decide) (fun k σ' H' => ∃ (la : Addr) (rsF rsL : List V) (x3 x4 x5 : Option V), σ' = [some (.ref p), some (.ref fo), some (.ref la), x3, x4, x5, none] ∧ Ex H H' ∧ H' fo = some (.lst rsF) ∧ H' la = some (.lst rsL) ∧ la ≠ fo ∧ LsL [fo] H' rsF (setsUp S k) ∧ LsL [fo] H' rsL (levels S k))
      (fun H3 e3 => ⟨la, [.ref f1], [.ref l1], none, none, none, rfl, e2.trans e3, e3 _ _ hfo2, e3 _ _ hla, n1, .cons ⟨f1, rfl, by simpa using nff.symm, e3 _ _ hf2⟩ .nil, .cons ⟨l1, rfl, by simpa using n2, e3 _ _ hl1⟩ .nil⟩) ?_ ?_
    · rintro k σ' H' hk ⟨la, rsF, rsL, x3, x4, x5, rfl, e0, hF, hL, nlf, LF, LL⟩
      have hk3 : k + 1 ≤ 3 := by omega
      refine q_asgL (el_lst ea_nil (by decide)) fun lo H1 hlo e1 h1 => ?_
      have nfl : fo ≠ lo := ne_of_none hF hlo
      have nll : la ≠ lo := ne_of_none hL hlo
      have LF1 : LsL [fo, lo] H1 rsF (setsUp S k) := (LF.re (ex' := [fo, lo]) fun b hb => by
        rcases List.mem_cons.mp hb with rfl | hb
        · exact .inl (by simp)
        · exact .inr (by rw [List.mem_singleton.mp hb]; exact hlo)).keep e1
      have LL1 : LsL [fo, lo] H1 rsL (levels S k) := (LL.re (ex' := [fo, lo]) fun b hb => by
        rcases List.mem_cons.mp hb with rfl | hb
        · exact .inl (by simp)
        · exact .inr (by rw [List.mem_singleton.mp hb]; exact hlo)).keep e1
      have hF1 := e1 _ _ hF
      have hL1 := e1 _ _ hL
      have nlo : H lo = none := fresh_back e0 hlo
      refine q_forLn (xs := rsL) (ev_var rfl) (sq_of hL1) (fun i σ' H' => ∃ (rs : List V) (x5 : Option V), σ' = [some (.ref p), some (.ref fo), some (.ref la), some (.int (k : Nat)), some (.ref lo), x5, none] ∧ FrL [lo] H1 H' ∧ H' lo = some (.lst rs) ∧ LsL [fo, lo] H' rs (((levels S k).take i).flatMap (extend S)))
        (fun H3 e3 => ⟨[], x5, rfl, FrL.ex e3, e3 _ _ h1, .nil⟩) (fun i σ' H' _ ⟨_, _, _, f, _, _⟩ => sq_of (f.at1 hL1 nll)) ?_ ?_
      · rintro i x σ' H' hi ⟨rs, x5, rfl, f, hlo', LR⟩
        obtain ⟨row, hrow, q, rfl, nq, hq⟩ := prs_at LL1 hi
        have hq' : H' q = some (.lst (vI row)) := f.at1 hq fun z => nq (by rw [z]; simp)
        have hp' : SqL K H' p (vI S) := ex_l (FrL.new (l := [lo]) ((FrL.ex (e0.trans e1)).trans f) fun b hb => by rw [List.mem_singleton.mp hb]; exact nlo) hp
        have hrk : row.length = k := ((levels_mem S k row).mp (List.mem_of_getElem? hrow)).1
        have hrl := lev_len hS k
        have hrow2 := (List.getElem?_eq_some_iff.mp hrow).1
        have h163 : 16 ^ k ≤ 16 ^ 2 := Nat.pow_le_pow_right (by decide) (by omega)
        have h256 : 16 ^ 2 = 256 := rfl
        have hrsl : rs.length ≤ 256 * 16 := by
          rw [prs_len LR]
          refine Nat.le_trans (fm_len _) (Nat.mul_le_mul ?_ hS)
          rw [List.length_take]
          omega
        refine s_extQ (ls := extend S row) hlo' (ev_var rfl) ?_ (by have := ext_len S row; omega) fun H2 H3 ys d e2 e3 hn => ?_
        · refine elp_lcLL (extOk row) (fun one => row ++ [one]) (ev_var rfl) hp' (by omega) (fun _ => rfl) (fun n H2 e2 hm => ?_) fun n H2 e2 hm hf => ?_
          · refine et_is (et_or (et_test (ev_opL (ev_var rfl) (el_lst ea_nil (by decide)) fun r H3 hr e3 => rv_eqLL (l := row.map fun n : Nat => (n : Int)) (m := []) (by rw [← vI_ints]; exact sq_of ((e2.trans e3) _ _ hq')) (sq_of hr))) fun hf => et_test (ev_op (ev_var rfl) (ev_op (ev_var rfl) (ev_un ev_c ru_neg) (rv_ixL (sq_of (e2 _ _ hq')) (at_last row ?_))) rv_I0)) ?_
            · rintro rfl
              cases hf
            · unfold extOk
              congr 1
              · cases row <;> rfl
              · rw [Bool.eq_iff_iff, decide_eq_true_iff, decide_eq_true_iff]
                omega
          · have := el_catV (xs := vI row) (ys := [.int (n : Nat)]) (σ := (wipe [some (.ref p), some (.ref fo), some (.ref la), some (.int (k : Nat)), some (.ref lo), some (.ref q), none] [6]).set 6 (some (.int (n : Nat)))) (ta := tVar 5) (tb := tLst (tCons (tVar 6) tNil)) (ev_var rfl) (e2 _ _ hq') (el_lst (ea_cons (ev_var rfl) ea_nil) (by show (1 : Nat) ≤ 100000; decide)) (by rw [vI_len, hrk]; show k + 1 ≤ 100000; omega)
            have e9 : vI (row ++ [n]) = vI row ++ [.int (n : Nat)] := by
              unfold vI
              rw [List.map_append]
              rfl
            rw [e9]
            exact this
        · have hlo3 := (e2.trans e3) _ _ hlo'
          refine ⟨rs ++ ys, _, rfl, (f.trans (FrL.ex (e2.trans e3))).trans (FrL.up (by simp)), upd_same, ?_⟩
          rw [List.take_succ, hrow, List.flatMap_append]
          refine LsL.app ((LR.keep (e2.trans e3)).fr (FrL.up (by simp))) ?_
          show LsL [fo, lo] _ ys (extend S row ++ [])
          rw [List.append_nil]
          refine prs_imp (fun _ _ ⟨q, e, n, m, hq⟩ => ?_) hn
          have n1 : q ≠ fo := (ne_of_none (e2 _ _ (f.at1 hF1 nfl)) n).symm
          have n2 : q ≠ lo := (ne_of_none (e2 _ _ hlo') n).symm
          exact ⟨q, e, by simp [n1, n2], by rw [upd_ne n2]; exact hq⟩
      · rintro σ' H' ⟨rs, x5, rfl, f, hlo', LR⟩
        rw [prs_len LL1, List.take_length] at LR
        have hF' := f.at1 hF1 nfl
        have hu := up_len hS k (by omega)
        have hl := lev_len hS (k + 1)
        have h163 : 16 ^ (k + 1) ≤ 16 ^ 3 := Nat.pow_le_pow_right (by decide) (by omega)
        have h4096 : 16 ^ 3 = 4096 := rfl
        have r1 := prs_len LF1
        have r2 := prs_len LR
        have r3 : ((levels S k).flatMap (extend S)).length = (levels S (k + 1)).length := rfl
        refine q_extV hF' (ev_var rfl) (ev_var rfl) hlo' (by omega) fun H2 e2 => s_asg (ev_var rfl) fun H3 e3 => ?_
        have f2 : FrL [fo] H' H3 := ((FrL.ex e2).trans (FrL.up (by simp))).trans (FrL.ex e3)
        have eH : Ex H H3 := FrL.new (l := [fo, lo]) ((FrL.ex (e0.trans e1)).trans ((f.mono (by simp)).trans (f2.mono (by simp)))) fun b hb => by
          rcases List.mem_cons.mp hb with hb | hb
          · rw [hb]; exact nfo
          · rw [List.mem_singleton.mp hb]; exact nlo
        have sub : ∀ {xs : List V} {ls : List (List Nat)} {Hx : Hp}, LsL [fo, lo] Hx xs ls → LsL [fo] Hx xs ls := fun h => h.re fun b hb => .inl (by rw [List.mem_singleton.mp hb]; simp)
        refine ⟨lo, rsF ++ rs, rs, _, _, _, rfl, eH, e3 _ _ upd_same, f2.at1 hlo' nfl.symm, nfl.symm, ((LsL.app ((LF1.fr (f.mono (by simp))) ) LR) |> sub).fr f2, (sub LR).fr f2⟩
    · rintro σ' H' ⟨la, rsF, rsL, x3, x4, x5, rfl, e0, hF, hL, nlf, LF, LL⟩
      exact s_ret (ev_var rfl) fun H3 e3 => k fo rsF H3 nfo (e0.trans e3) (e3 _ _ hF) ((LF.re (ex' := []) fun b hb => absurd hb (by simp)).keep e3)
theorem ev_setsOf (S : List Nat) (p : Addr) (E : L2.St → XK) {i : Nat} (h0 : σ[i]? = some (some (.ref p))) (hp : SqL K H p (vI S)) (hS : S.length ≤ 16) : EvLP (tG (sp_sets_of K) E (tCons (tVar i) tNil)) σ H (fun rs H' => LsL [] H' rs (setsUp S 3)) := fun H1 e Q q =>
  ea_cons (ev_var h0) ea_nil H1 e _ fun H2 e2 => ⟨p, S, rfl, ex_l (e.trans e2) hp, hS, fun l rs H' hl e3 h3 hL => q l rs H' (fresh_back e2 hl) (e2.trans e3) h3 hL⟩
theorem lex3 (t : Vamvsa.Table) (W u b : List Nat) : HT.lexLt [((buildCost t (W ++ u) : Nat) : Int), ((u.length : Nat) : Int), ((codeN u : Nat) : Int)] [((buildCost t (W ++ b) : Nat) : Int), ((b.length : Nat) : Int), ((codeN b : Nat) : Int)] = helpersLess (priceN t W u) (priceN t W b) := by
  rw [Bool.eq_iff_iff, less_iff, HT.lexLt_cons, HT.lexLt_cons, HT.lexLt_cons, HT.lexLt_nil_nil]
  show _ ↔ buildCost t (W ++ u) < buildCost t (W ++ b) ∨ buildCost t (W ++ u) = buildCost t (W ++ b) ∧ (u.length < b.length ∨ u.length = b.length ∧ codeN u < codeN b)
  split
  · split
    · split
      · simp; omega
      · rw [decide_eq_true_iff]; omega
    · rw [decide_eq_true_iff]; omega
  · rw [decide_eq_true_iff]; omega
theorem ok_best_helpers (T : Txt K mg a) : Good P w K mg base 5 a.f_best_helpers ["sizes", "wished"] (sp_best_helpers a) := by
  obtain ⟨fd, F⟩ := T.F_best_helpers
  refine ⟨⟨fd, F.okX sc_best_helpers (fun vs H Q E h => ?_) (fun cdv A outer s H vs Q E hr h => ⟨_, (pss_cons (ps_setLc (i := 2) (own := [("grouping", 7)]) rfl sc_best_helpers.nd rfl rfl (sw_true rfl rfl rfl (by decide +kernel)) (pi_range1 rfl T.b_range (pa_cons (pe_callB call_len_seq (by rfl) T.b_len (by decide +kernel) (pa_cons (pe_fld (pv 0) rfl) pa_nil)) pa_nil)) (blkOk_by (own := [("grouping", 7)]) (N := ["sizes", "wished", "others", "best", "least", "helpers", "key", "grouping"]) (sc := defScope s_best_helpers) (by decide +kernel)) (fun _ _ _ _ _ => (pg_name (i := 7) sc_best_helpers.nd rfl (Or.inl rfl))) (fun _ _ _ _ _ => (pts_one (pt_cmpR (op_notIn_seqK (K := K)) (pv 7) (pv 1) (by rfl)))) (fun _ _ _ _ _ => (pv 7)))
    (pss_cons (ps_par (i := 3) (j := 4) (by rfl) sc_best_helpers.nd rfl rfl (by decide) rfl rfl (pa_cons (pe_lst pa_nil) (pa_cons pe_non pa_nil)) (by rfl))
    (pss_cons (ps_for (passes_of rfl) rfl (pi_list (pe_g (ok_sets_of T) (hr.mono (by decide)) rfl T.m_sets_of (E := fun _ => E0) px0 (pa_cons (pv 2) pa_nil))) (pg_name (i := 5) sc_best_helpers.nd rfl (Or.inl rfl))
      (pss_cons (ps_set (i := 6) sc_best_helpers.nd rfl (Or.inl rfl) (pe_tup (pa_cons (pe_gm (ok_Sizes_cost_together T) (pv 0) T.cl_Sizes T.me_Sizes_cost_together (hr.mono (by decide)) (E := fun _ => E0) px0 (pa_cons (pe_op op_cat (pv 1) (pv 5)) pa_nil)) (pa_cons (pe_callB call_len_seq (by rfl) T.b_len (by decide +kernel) (pa_cons (pv 5) pa_nil)) (pa_cons (pe_g (ok_helper_number T) (hr.mono (by decide)) rfl T.m_helper_number (E := fun _ => E0) px0 (pa_cons (pv 5) pa_nil)) pa_nil)))))
    (pss_one (ps_if (PW.pt (pw_or (pt_cmpR op_isN (pv 4) pe_non (by rfl)) (pw_or1 (pt_cmpR (op_ltT hr.units0) (pv 6) (pv 4) (nomark _)))))
      (pss_one (ps_par (i := 3) (j := 4) (by rfl) sc_best_helpers.nd rfl rfl (by decide) rfl rfl (pa_cons (pv 5) (pa_cons (pv 6) pa_nil)) (by rfl)))
      pss_nil))))
    (pss_one (ps_ret (pv 3)))))), ?_⟩), F.binds fun _ _ _ _ _ _ us hl => match us, hl with | [_, _], _ => rfl⟩, T.k_best_helpers⟩
  · obtain ⟨z, p, t, S, rfl, _⟩ := h
    rfl
  · obtain ⟨z, p, t, S, rfl, SZ, hp, hS, k⟩ := h
    obtain ⟨⟨dx, lz, k1, k2⟩, wf⟩ := id SZ
    have hp16 : 2 ^ width t ≤ 16 := pow_le16 wf.c4
    have hlen : (vI (sizesL t)).length = 2 ^ width t := by rw [vI_len, sizesL_len]
    have hSb : ∀ g ∈ S, g < 2 ^ width t := fun g hg => by
      rw [← hS] at hg
      exact List.mem_range.mp (List.mem_filter.mp hg).1
    have hSl : S.length ≤ 16 := by
      rw [← hS]
      refine Nat.le_trans (List.length_filter_le _ _) ?_
      show (List.range _).length ≤ 16
      rw [List.length_range]
      exact hp16
    have hOl : (othersOf t S).length ≤ 16 := by
      refine Nat.le_trans (List.length_filter_le _ _) ?_
      show (List.range _).length ≤ 16
      rw [List.length_range]
      exact hp16
    have ho : EvL (tLc (iRng1 (tCons (tCB (rLenS K) (tCons (tFld K (tVar 0) "lines") tNil)) tNil)) (gName 7) (tTest (tOp (rIn K true) (tVar 7) (tVar 1))) (tVar 7) [7]) [some (.ref z), some (.ref p), none, none, none, none, none, none] H (vI (othersOf t S)) := by
      have eg : given ((((2 ^ width t : Nat) : Int)).toNat) (fun g => !S.contains g) (fun i => V.int (i : Nat)) = vI (othersOf t S) := by
        rw [given_vI, Int.toNat_natCast]
        rfl
      rw [← eg]
      refine el_lcR1 _ _ (ea_cons (ev_is (ev_len (ev_fld (ev_var rfl) k1 T.cl_Sizes T.n_Sizes_lines (szF_lines _ _)) (sq_of k2)) (by rw [hlen])) ea_nil) ⟨Int.natCast_nonneg _, Int.ofNat_le.mpr (by omega : 2 ^ width t ≤ 40000)⟩ (fun _ => rfl) (fun i H3 e3 hi => et_test (ev_op (ev_var rfl) (ev_var rfl) (ni_sites i S (e3 _ _ hp)))) fun i H3 e3 hi hf => ev_var rfl
    refine q_asgL ho fun oth H1 noth e1 hoth => ?_
    refine q_parLV (el_lst ea_nil (by decide)) ev_c fun b0 H2 nb0 e2 hb0 => ?_
    have SZ2 := SZ.ex (e1.trans e2)
    refine q_forLP (ev_setsOf (othersOf t S) oth _ rfl (sq_of (e2 _ _ hoth)) hOl) (fun xs l i σ' H' => ∃ (bq : Addr) (least x5 x6 : Option V), σ' = [some (.ref z), some (.ref p), some (.ref oth), some (.ref bq), least, x5, x6, none] ∧ Ex H H' ∧ H' l = some (.lst xs) ∧ LsL [] H' xs (setsUp (othersOf t S) 3) ∧
      H' bq = some (.lst (vI (bestN t S ((setsUp (othersOf t S) 3).take i) []))) ∧ (i = 0 → least = some .non) ∧ (0 < i → ∃ u, least = some (.ref u) ∧ H' u = some (.tup [.int (buildCost t (S ++ bestN t S ((setsUp (othersOf t S) 3).take i) []) : Nat), .int ((bestN t S ((setsUp (othersOf t S) 3).take i) []).length : Nat), .int (codeN (bestN t S ((setsUp (othersOf t S) 3).take i) []) : Nat)])))
      (fun xs l H3 hl e3 h3 hL => ⟨b0, some .non, none, none, rfl, (e1.trans e2).trans e3, h3, hL, e3 _ _ hb0, fun _ => rfl, fun h => absurd h (by decide)⟩) (fun xs l i σ' H' _ ⟨_, _, _, _, _, _, h, _⟩ => sq_of h) ?_ ?_
    · rintro xs l i x σ' H' hi ⟨bq, least, x5, x6, rfl, e3, h3, hL, hb, hz, hp1⟩
      obtain ⟨u, hu, q, rfl, _, hq⟩ := prs_at hL hi
      have hum := (setsUp_mem _ _ _).mp (List.mem_of_getElem? hu)
      have hub : ∀ g ∈ u, g < 2 ^ width t := fun g hg => others_lt (hum.2.2 g hg)
      have SZ' := SZ.ex e3
      have hp' := e3 _ _ hp
      have kk1 := e3 _ _ k1
      have hcat : EvL (tOp rCat (tVar 1) (tVar 5)) [some (.ref z), some (.ref p), some (.ref oth), some (.ref bq), least, some (.ref q), x6, none] H' (vI (S ++ u)) := by
        have e9 : vI (S ++ u) = vI S ++ vI u := List.map_append
        rw [e9]
        exact el_catVV (ev_var rfl) hp' (ev_var rfl) hq (by rw [vI_len, vI_len]; omega)
      have hbd : Bd t (S ++ u) := ⟨fun g hg => (List.mem_append.mp hg).elim (hSb g) (hub g), by rw [List.length_append]; omega⟩
      have hec : Ev (tGM a.c_Sizes "cost_together" (sp_cost_together K a) (fun _ => E0) (tVar 0) (tCons (tOp rCat (tVar 1) (tVar 5)) tNil)) [some (.ref z), some (.ref p), some (.ref oth), some (.ref bq), least, some (.ref q), x6, none] H' (.int (buildCost t (S ++ u) : Nat)) := fun H1 e1 Q qq =>
        ⟨_, rfl, z, dx, _, rfl, e1 _ _ kk1, szF_none _ _ (by decide +kernel) (by decide +kernel), hcat H1 e1 _ fun r H2 hr e2 h2 => ⟨z, r, t, _, rfl, SZ'.ex (e1.trans e2), sq_of h2, hbd, fun H3 e3 => qq H3 (e2.trans e3)⟩⟩
      have step : bestN t S ((setsUp (othersOf t S) 3).take (i + 1)) [] = if helpersLess (priceN t S u) (priceN t S (bestN t S ((setsUp (othersOf t S) 3).take i) [])) = true then u else bestN t S ((setsUp (othersOf t S) 3).take i) [] := by
        rw [List.take_succ, hu]
        unfold bestN
        rw [List.foldl_append]
        rfl
      refine q_asgU (eu_tup (vs := [.int (buildCost t (S ++ u) : Nat), .int (u.length : Nat), .int (codeN u : Nat)]) (ea_cons hec (ea_cons (ev_is (ev_len (ev_var rfl) (sq_of hq)) (by rw [vI_len])) (ea_cons (ev_g (ea_cons (ev_var rfl) ea_nil) fun H4 e4 Q qq E => ⟨q, u, rfl, sq_of (e4 _ _ hq), by omega, fun g hg => pow2_lt wf.c4 (hub g hg), qq⟩) ea_nil))) (by show (3 : Nat) ≤ 100000; decide)) fun ky H4 hky e4 h4 => ?_
      by_cases h0 : i = 0
      · subst h0
        have hu0 : u = [] := by
          have : (setsUp (othersOf t S) 3)[0]? = some [] := rfl
          rw [this] at hu
          exact (Option.some.inj hu).symm
        have hl0 := hz rfl
        subst hl0
        have hb1 : bestN t S ((setsUp (othersOf t S) 3).take (0 + 1)) [] = u := by
          rw [step]
          split
          · rfl
          · exact hu0.symm
        refine s_when (b := true) (et_is (et_or (b := false) (et_test (ev_op (ev_var rfl) ev_c fun H1 _ _ q => ⟨rfl, q H1 (Ex.refl _)⟩)) fun hf => (nomatch hf)) rfl) (fun _ H5 e5 => ?_) (fun hf => (nomatch hf))
        refine s_parVV (ev_var rfl) (ev_var rfl) fun H6 e6 => ⟨q, some (.ref ky), _, _, rfl, ((e3.trans e4).trans e5).trans e6, ((e4.trans e5).trans e6) _ _ h3, ((hL.keep e4).keep e5).keep e6, ?_, fun h => (by omega), fun _ => ⟨ky, rfl, ?_⟩⟩
        · rw [hb1]
          exact ((e4.trans e5).trans e6) _ _ hq
        · rw [hb1]
          exact (e5.trans e6) _ _ h4
      · obtain ⟨lu, rfl, hlu⟩ := hp1 (by omega)
        refine s_when (b := helpersLess (priceN t S u) (priceN t S (bestN t S ((setsUp (othersOf t S) 3).take i) []))) (et_is (et_or (a := false) (et_test (ev_is (ev_op (ev_var rfl) ev_c fun H1 _ _ q => ⟨rfl, q H1 (Ex.refl _)⟩) rfl)) fun _ => et_test (ev_op (ev_var rfl) (ev_var rfl) fun H1 e1 Q qq => ⟨ky, lu, [_, _, _], [_, _, _], rfl, rfl, st_of (e1 _ _ h4), st_of ((e4.trans e1) _ _ hlu), qq H1 (Ex.refl _)⟩)) (by rw [Bool.false_or]; exact lex3 _ _ _ _)) (fun hb1 H5 e5 => ?_) (fun hb1 H5 e5 => ?_)
        · rw [if_pos hb1] at step
          refine s_parVV (ev_var rfl) (ev_var rfl) fun H6 e6 => ⟨q, some (.ref ky), _, _, rfl, ((e3.trans e4).trans e5).trans e6, ((e4.trans e5).trans e6) _ _ h3, ((hL.keep e4).keep e5).keep e6, ?_, fun h => (by omega), fun _ => ⟨ky, rfl, ?_⟩⟩
          · rw [step]
            exact ((e4.trans e5).trans e6) _ _ hq
          · rw [step]
            exact (e5.trans e6) _ _ h4
        · rw [if_neg (by rw [hb1]; decide)] at step
          rw [step]
          exact ⟨bq, some (.ref lu), _, _, rfl, (e3.trans e4).trans e5, (e4.trans e5) _ _ h3, (hL.keep e4).keep e5, (e4.trans e5) _ _ hb, fun h => (by omega), fun _ => ⟨lu, rfl, (e4.trans e5) _ _ hlu⟩⟩
    · rintro xs l σ' H' ⟨bq, least, x5, x6, rfl, e3, h3, hL, hb, _, _⟩
      rw [prs_len hL, List.take_length, best_eq hS] at hb
      exact s_ret (ev_var rfl) fun H4 e4 => k bq H4 (e3.trans e4) (e4 _ _ hb)
end
end BA

namespace BA
open PySem PySem.Spec PyProof.Rows L2 Evl NdefX LamX

/-! ### a lambda's call -/
section
variable {P : Program} {w : World} {K : PySem.W.Frag} {mg : Str → Option Value} {base : Heap} {N ps : List Str} {F : NF} {params : Arguments} {body : Expr} {f : Addr} {k : Nat} {te : TE} {A : Around} {outer : List Env} {s : Shared} {H : Hp} {E : XK} {us : List Value} {vs : List V} {Q : VK} {pm ctv : Value}
theorem lam_runs (S : NScope N ps [] F.scope) (hcl : F.cl = []) (hr : Room (k + 1) A) (e0 : Env0 P w K mg base A outer s H)
    (ho : s.heap.get? f = some (PySem.W.kla_obj F.name F.qual params body F.scope F.cl pm F.c ctv)) (hc : H F.c = some (CodeO F.c F.qual))
    (hb : bindArgs (PySem.W.kla_fn F.name F.qual params body F.scope F.cl pm (.ref F.c) ctv) ⟨us, []⟩ = pure (ps.zip us)) (hl : vs.length = ps.length) (r : Vals vs us)
    (hbody : PE (ncx (L2.CX P w) P w K mg base N F f A outer s H E) body te) (ht : te (startF N vs []) H Q) :
    codeAny (model P w) A (.call (.ref f) ⟨us, []⟩) (CR (L2.CX P w) outer P w H s Q E) s := by
  have lim : s.heap.NoLimit := e0.mod.nolimit.keeps fun b o e => (e0.bs b o e).1
  refine PySem.W.kla_callFunE hr.depth ho rfl S.co S.gen rfl (codeO_at e0.hok hc) ?_
  rw [hb]
  refine wpAny_pure (wpAny_newFunctionEnv S.nocell (fun ⟨n, _⟩ hy => S.par n (List.of_mem_zip hy).1) (fun h₁ hns hsb => ⟨lim.fresh _ hsb, ?_⟩) S.kind)
  show codeAny _ _ (.expr body (envF F f s.heap.objs.size)) _ _
  have kp : ∀ b o, s.heap.get? b = some o → h₁.get? b = some o := fun b o e => hsb.extBut b o (Nat.ne_of_lt (Heap.lt_size e)) (Heap.get?_push_of_some _ e)
  have noC : ∀ {y : Str} {c : Addr}, F.cl.lookup y = some c → False := fun {y c} e => by rw [hcl] at e; cases e
  have I : Inv (ncx (L2.CX P w) P w K mg base N F f A outer s H E) [] (startF N vs []) H { s with heap := h₁, toks := s.toks + (ps.zip us).length } :=
    inv_startN S hr.hd e0 hl r ⟨rfl, fun y c e => (noC e).elim, fun x y c e _ => (noC e).elim, fun i y e => by simp at e⟩ hns kp
  refine PySem.W.kla_codeExpr (wpAny_mono (hbody.run [] _ _ H Q I ht) (fun v s' hq => ?_) fun e s' hq => hq)
  obtain ⟨w', H', J', rv, q⟩ := hq
  exact ⟨w', H', J'.os, J'.bare, J'.base, J'.hok, rv, q⟩
end

/-! ### sorted with it -/
def Srt2 (kf : Nat → Int × Int) (S : List Nat) : List Nat := S.mergeSort fun p q => decide ((kf p).1 < (kf q).1 ∨ ((kf p).1 = (kf q).1 ∧ (kf p).2 ≤ (kf q).2))
def KTup (H : Hp) (u : Value) (x : Int × Int) : Prop := ∃ p, u = .ref p ∧ H p = some (.tup [.int x.1, .int x.2])
theorem each_of_vals : ∀ {S : List Nat} {us : List Value}, Vals (vI S) us → PySem.W.EachIs (fun (u : Value) (g : Nat) => L2.RelV (.int (g : Nat)) u) us S
  | [], _, h => by cases h; exact .nil
  | g :: S, _, h => by
    cases h with
    | cons a b => exact .cons a (each_of_vals b)
theorem vals_of_each : ∀ {S : List Nat} {us : List Value}, PySem.W.EachIs (fun (u : Value) (g : Nat) => L2.RelV (.int (g : Nat)) u) us S → Vals (vI S) us
  | [], _, h => by cases h; exact .nil
  | g :: S, _, h => by
    cases h with
    | cons a b => exact .cons a (vals_of_each b)
section
variable {X : Cx} {pins : List (Addr × Obj)} {σ : L2.St} {H : Hp} {s : Shared}
theorem un_but {fs : List Addr} {H H1 : Hp} {h h1 h2 : Heap} {c : Addr} (u : Un fs [] H H1 h h1) (n : h.get? c = none) (k : ∀ b, b ≠ c → ∀ o, h1.get? b = some o → h2.get? b = some o) : Un fs [] H H1 h h2 := by
  have ne : ∀ {b o}, h.get? b = some o → b ≠ c := fun e z => by rw [z, n] at e; cases e
  refine ⟨fun b o e a b2 c2 => k b (ne e) _ (u.keep b o e a b2 c2), fun b o e a b2 c2 => ?_, u.free, fun b o e x => ?_, u.tups, u.frzs, u.tbls⟩
  · obtain ⟨sl, q⟩ := u.slot b o e a b2 c2
    exact ⟨sl, k b (ne e) _ q⟩
  · obtain ⟨o', q⟩ := u.there b o e x
    exact ⟨o', k b (ne e) _ q⟩
theorem hok_but {P : Program} {w : World} {H : Hp} {h h' : Heap} {c : Addr} (x : HOk P w H h) (n : H c = none) (k : ∀ b o, b ≠ c → h.get? b = some o → h'.get? b = some o) : HOk P w H h' := fun b u e => by
  have nit : ∀ b u, H b = some u → b ≠ c := fun b u e z => by rw [z, n] at e; cases e
  refine (x b u e).stay (fun d v hc q => k d v ?_ q) (fun _ q => q) fun _ _ q => q
  rcases hc with z | z
  · rw [z]; exact nit b u e
  · exact nit d _ z
theorem un_but2 {fs : List Addr} {H H1 : Hp} {h h1 h2 : Heap} {c d : Addr} (u : Un fs [] H H1 h h1) (n : h.get? c = none) (n2 : h.get? d = none) (k : ∀ b, b ≠ c → b ≠ d → ∀ o, h1.get? b = some o → h2.get? b = some o) : Un fs [] H H1 h h2 := by
  have ne : ∀ {b o}, h.get? b = some o → b ≠ c := fun e z => by rw [z, n] at e; cases e
  have ne2 : ∀ {b o}, h.get? b = some o → b ≠ d := fun e z => by rw [z, n2] at e; cases e
  refine ⟨fun b o e a b2 c2 => k b (ne e) (ne2 e) _ (u.keep b o e a b2 c2), fun b o e a b2 c2 => ?_, u.free, fun b o e x => ?_, u.tups, u.frzs, u.tbls⟩
  · obtain ⟨sl, q⟩ := u.slot b o e a b2 c2
    exact ⟨sl, k b (ne e) (ne2 e) _ q⟩
  · obtain ⟨o', q⟩ := u.there b o e x
    exact ⟨o', k b (ne e) (ne2 e) _ q⟩
theorem un_track {fs : List Addr} {H H1 : Hp} {h h1 : Heap} {c : Addr} {o : HO} (u : Un fs [] H H1 h h1) (n : h.get? c = none) (n2 : H c = none) : Un fs [] H (upd H1 c o) h h1 := by
  have ne : ∀ {b o}, h.get? b = some o → b ≠ c := fun e z => by rw [z, n] at e; cases e
  have ne2 : ∀ {b o}, H b = some o → b ≠ c := fun e z => by rw [z, n2] at e; cases e
  refine ⟨u.keep, u.slot, fun b o e a x => by rw [upd_ne (ne e)]; exact u.free b o e a x, u.there, fun b xs e => by rw [upd_ne (ne2 e)]; exact u.tups b xs e, fun b o v e => by rw [upd_ne (ne2 e)]; exact u.frzs b o v e, fun b ps e => ?_⟩
  obtain ⟨m, q⟩ := u.tbls b ps e
  exact ⟨m, by rw [upd_ne (ne2 e)]; exact q⟩
theorem hok_but2 {P : Program} {w : World} {H : Hp} {h h' : Heap} {c d : Addr} (x : HOk P w H h) (n : H c = none) (n2 : H d = none) (k : ∀ b o, b ≠ c → b ≠ d → h.get? b = some o → h'.get? b = some o) : HOk P w H h' := fun b u e => by
  have nit : ∀ b u, H b = some u → b ≠ c := fun b u e z => by rw [z, n] at e; cases e
  have nit2 : ∀ b u, H b = some u → b ≠ d := fun b u e z => by rw [z, n2] at e; cases e
  refine (x b u e).stay (fun v o hc q => k v o ?_ ?_ q) (fun _ q => q) fun _ _ q => q
  · rcases hc with z | z
    · rw [z]; exact nit b u e
    · exact nit v _ z
  · rcases hc with z | z
    · rw [z]; exact nit2 b u e
    · exact nit2 v _ z
theorem each_at {α β : Type} {R : α → β → Prop} {l : List α} {m : List β} {i : Nat} {x : α} (h : PySem.W.EachIs R l m) (hi : l[i]? = some x) : ∃ y, m[i]? = some y ∧ R x y := by
  induction h generalizing i with
  | nil => cases hi
  | cons hh _ ih =>
    cases i with
    | zero => cases hi; exact ⟨_, rfl, hh⟩
    | succ i => exact ih hi
theorem sort_lam (I : Inv X pins σ H s) {a f : Addr} {fo : Obj} {S : List Nat} {kf : Nat → Int × Int} (hs : SqL X.K H a (vI S)) (hf : s.heap.get? f = some fo) (hfn : H f = none) (hfr : f ∉ frs X.stack) (hun : X.A.units + 20 < cLine) {Q : VK}
    (turn : ∀ (g : Nat) (u : Value) (s' : Shared) (H' : Hp), g ∈ S → L2.RelV (.int (g : Nat)) u → Env0 X.prog X.w X.K X.mg X.base X.A.in1.in1 X.stack s' H' → s'.heap.get? f = some fo → Ex H H' →
      codeAny (model X.prog X.w) X.A.in1.in1 (.call (.ref f) ⟨[u], []⟩) (CR (L2.CX X.prog X.w) X.stack X.prog X.w H' s' (fun v H'' => ∃ p, v = .ref p ∧ H'' p = some (.tup [.int (kf g).1, .int (kf g).2]) ∧ Ex H' H'') E0) s')
    (h : ∀ l H', H l = none → Ex H H' → H' l = some (.lst (vI (Srt2 kf S))) → Q (.ref l) H') :
    wpAny (model X.prog X.w) X.A (call (.builtin "sorted") [.ref a] [(Str.ofString "key", .ref f)]) (EP X pins σ Q) X.xe s := by
  obtain ⟨its, rv, hl, hz⟩ := I.list hs
  have hlen : its.length = S.length := by
    rw [← rv.length]
    exact vI_len S
  have hz' : its.length ≤ sizeLine := by rw [← rv.length]; exact hz
  have each := each_of_vals rv
  refine PySem.W.sorted_of_sort hl.isList hz' (PyProof.Rows.ksk_s1 _ _) (fun _ => PyProof.Rows.ksk_l1 _ _) fun E' => ?_
  rw [PyProof.Rows.ksk_t1]
  have ho := PySem.W.copyHeap_at s.heap its
  have hold : ∀ {b o}, s.heap.get? b = some o → (PySem.W.copyHeap s.heap its).get? b = some o := fun e => PySem.W.copyHeap_old e
  have hpa : s.heap.get? (s.heap.objs.size + 1) = none := Heap.get?_none_of_le (Nat.le_succ _)
  generalize ea : s.heap.objs.size + 1 = a' at ho hpa ⊢
  have hsa : s.heap.objs.size ≤ a' := by omega
  generalize PySem.W.copyHeap s.heap its = h0 at ho hold ⊢
  have ha : a' < h0.objs.size := Heap.lt_size ho
  obtain ⟨e1, ho1⟩ : ∃ e1, (h0.update a' (Obj.mapSeq fun _ => (#[] : Array Value))).get? a' = some (seqObj "list" #[] e1) := ⟨_, get?_update_seq ho fun _ => #[]⟩
  have hkS : ((h0.update a' (Obj.mapSeq fun _ => (#[] : Array Value))).push (seqObj "tuple" its.toArray 0)).objs.size = h0.objs.size + 1 := by rw [size_push', Heap.size_update]
  unfold PyProof.Rows.ksk_tree
  refine wpAny_bind (listItems_at ho rfl ?_)
  refine wpAny_bind (listUpdate_at ho rfl ?_ (by rw [List.size_toArray]; exact hz') (Nat.zero_le _))
  refine wpAny_bind (seqEpoch_at ho1 rfl ?_)
  refine wpAny_bind (wpAny_newTuple ?_ (by show its.length ≤ _; exact hz'))
  refine wpAny_bind (wpAny_newList ?_ (Nat.zero_le _))
  refine wpAny_holding ?_
  have nk := Heap.get?_push_size ((h0.update a' (Obj.mapSeq fun _ => (#[] : Array Value))).push (seqObj "tuple" its.toArray 0)) (o := seqObj "list" #[] 0) rfl
  have na : (((h0.update a' (Obj.mapSeq fun _ => (#[] : Array Value))).push (seqObj "tuple" its.toArray 0)).push (seqObj "list" #[] 0)).get? a' = some (seqObj "list" #[] e1) := Heap.get?_push_of_some _ (Heap.get?_push_of_some _ ho1)
  have old : ∀ b o, s.heap.get? b = some o → (((h0.update a' (Obj.mapSeq fun _ => (#[] : Array Value))).push (seqObj "tuple" its.toArray 0)).push (seqObj "list" #[] 0)).get? b = some o := fun b o e => by
    refine Heap.get?_push_of_some _ (Heap.get?_push_of_some _ ?_)
    rw [Heap.get?_update_ne _ _ _ _ (fun z => by rw [z, hpa] at e; cases e)]
    exact hold e
  have hka : ((h0.update a' (Obj.mapSeq fun _ => (#[] : Array Value))).push (seqObj "tuple" its.toArray 0)).objs.size ≠ a' := by rw [hkS]; omega
  have hks : s.heap.objs.size ≤ ((h0.update a' (Obj.mapSeq fun _ => (#[] : Array Value))).push (seqObj "tuple" its.toArray 0)).objs.size := by rw [hkS]; omega
  generalize ((h0.update a' (Obj.mapSeq fun _ => (#[] : Array Value))).push (seqObj "tuple" its.toArray 0)).objs.size = kS at nk hka hks ⊢
  generalize ((h0.update a' (Obj.mapSeq fun _ => (#[] : Array Value))).push (seqObj "tuple" its.toArray 0)).push (seqObj "list" #[] 0) = h2 at nk na old ⊢
  have nofr : ∀ b, s.heap.objs.size ≤ b → b ∉ frs X.stack := fun b hb z => by
    rcases List.mem_cons.mp (I.stkSub _ z) with e | e
    · have h1 := I.lt
      rw [← e] at h1
      exact Nat.lt_irrefl _ (Nat.lt_of_lt_of_le h1 hb)
    · exact I.nofs hb e
  have hpk : s.heap.get? kS = none := Heap.get?_none_of_le hks
  unfold PyProof.Rows.ksk_rest
  refine wpAny_bind (wpAny_rule ?_)
  first
    | rw [List.forIn_toArray]
    | (rw [← Array.forIn_toList]; simp only [List.toList_toArray])
    | rw [← Array.forIn_toList]
  refine wpAny_bind (PyProof.Rows.ksk_fold (fun i s' => ∃ (H' : Hp) (kA : Array Value) (e : Nat), s'.os = s.os ∧ AllBare s'.gens ∧ Un (frs X.stack) [] H H' s.heap s'.heap ∧ HOk X.prog X.w H' s'.heap ∧ Ex H H' ∧ s'.heap.get? kS = some (seqObj "list" kA e) ∧ H' kS = none ∧
      s'.heap.get? a' = some (seqObj "list" #[] e1) ∧ H' a' = none ∧ PySem.W.EachIs (fun u g => KTup H' u (kf g)) kA.toList (S.take i)) its 0 _
    ⟨H, #[], 0, rfl, I.bare, Un.kept old, I.hok.kept old, Ex.refl _, nk, I.hok.fresh hks, na, I.hok.fresh hsa, by rw [List.take_zero]; exact .nil⟩ ?step ?done)
  case step =>
    rintro j x s' hx ⟨H', kA, e, os, bare, un, hok, ex, nk', nK, na', nA, hk⟩
    simp only [Nat.zero_add] at hk ⊢
    obtain ⟨g, hg, hrg⟩ := each_at each hx
    have hm := List.mem_of_getElem? hg
    have hj : j < its.length := (List.getElem?_eq_some_iff.mp hx).1
    have hkz : kA.size ≤ its.length := by
      have h1 := hk.length
      rw [Array.length_toList, List.length_take] at h1
      omega
    have J : Inv X pins σ H' s' := I.call' (ch := []) os un hok bare (fun b hb => absurd hb (by simp))
    refine wpAny_bind (wpAny_attempt (wpAny_call (codeAny_mono (turn g x s' H' hm hrg J.env0.in1.in1 (un.keep f fo hf hfn hfr (by simp)) ex) fun r s'' hq => ?_)))
    cases r with
    | error er =>
      have hq : L2.CX X.prog X.w X.stack H' s' E0 er s'' := hq
      obtain ⟨_, _, _, _, _, _, _, _, _, _, _, _, z⟩ := hq
      exact z.elim
    | ok fl =>
      cases fl with
      | next => exact False.elim hq
      | brk => exact False.elim hq
      | cont => exact False.elim hq
      | ret u =>
        obtain ⟨v, H'', os2, bare2, un2, hok2, rv2, p, rfl, hp, ex2⟩ := hq
        obtain rfl : u = Value.ref p := rv2
        have nk2 : s''.heap.get? kS = some (seqObj "list" kA e) := un2.keep _ _ nk' nK (nofr _ hks) (by simp)
        have na2 : s''.heap.get? a' = some (seqObj "list" #[] e1) := un2.keep _ _ na' nA (nofr _ hsa) (by simp)
        have nK2 : H'' kS = none := un2.free _ _ nk' nK (by simp)
        have nA2 : H'' a' = none := un2.free _ _ na' nA (by simp)
        try dsimp only
        have s1 := Heap.SameBut.update s''.heap kS (Obj.mapSeq (·.push (Value.ref p)))
        obtain ⟨c2, hc2⟩ : ∃ c2, (s''.heap.update kS (Obj.mapSeq (·.push (Value.ref p)))).get? kS = some (seqObj "list" (kA.push (Value.ref p)) c2) := ⟨_, get?_update_seq nk2 (·.push (Value.ref p))⟩
        refine wpAny_bind (listUpdate_at nk2 rfl ?_ (Nat.le_trans hkz hz') (Nat.le_trans (Nat.le_of_eq (Array.size_push ..)) (Nat.succ_le_succ (Nat.le_trans hkz hz'))))
        have kp : ∀ b, b ≠ kS → ∀ o, s''.heap.get? b = some o → (s''.heap.update kS (Obj.mapSeq (·.push (Value.ref p)))).get? b = some o := fun b hb o e => (s1.2 b hb).trans e
        refine wpAny_pure ⟨rfl, H'', kA.push (Value.ref p), c2, os2.trans os, bare2, un_but (un.trans un2) hpk kp, hok_but hok2 nK2 (fun b o hb e => kp b hb o e), ex.trans ex2, hc2, nK2, kp _ hka.symm _ na2, nA2, ?_⟩
        rw [Array.toList_push, List.take_add_one, hg]
        exact PySem.W.each_snoc ⟨p, rfl, hp⟩ (hk.mono fun u g ⟨q, e1, e2⟩ => ⟨q, e1, ex2 _ _ e2⟩)
  case done =>
    rintro s' ⟨H', kA, e, os, bare, un, hok, ex, nk', nK, na', nA, hk⟩
    rw [Nat.zero_add, hlen, List.take_length] at hk
    have J : Inv X pins σ H' s' := I.call' (ch := []) os un hok bare (fun b hb => absurd hb (by simp))
    have hsz : kA.size = its.length := by
      have h1 := hk.length
      rw [Array.length_toList] at h1
      omega
    have hal : PySem.W.AllAlike (S.map fun g => PyData.tuple [.int (kf g).1, .int (kf g).2]) := PySem.W.AllAlike.of fun _ _ => by simp [PySem.W.alike, PySem.W.alikeAll]
    have hsk : PySem.W.Sortable (S.map fun g => PyData.tuple [.int (kf g).1, .int (kf g).2]) := PySem.W.Sortable.tuples fun _ => ⟨_, _, rfl⟩
    have hk' : PySem.W.EachIs (fun v d => ∃ as, Reads s'.heap v d as) kA.toList (S.map fun g => PyData.tuple [.int (kf g).1, .int (kf g).2]) := by
      have key : ∀ {l : List Value} {m : List Nat}, PySem.W.EachIs (fun u g => KTup H' u (kf g)) l m → PySem.W.EachIs (fun v d => ∃ as, Reads s'.heap v d as) l (m.map fun g => PyData.tuple [.int (kf g).1, .int (kf g).2]) := by
        intro l m h
        induction h with
        | nil => exact .nil
        | cons hh _ ih =>
          obtain ⟨p, rfl, hp⟩ := hh
          exact .cons (Dp.reads J (.tuple [.int _, .int _]) (.ref p) (.ref p) (.tup (st_of hp) (.cons (.int _) (.cons (.int _) .nil))) rfl) ih
      exact key hk
    try dsimp only
    refine wpAny_bind (listItems_at nk' rfl ?_)
    have hid : ∀ {b : Addr} {o : Obj}, b ≠ kS → s'.heap.get? b = some o → (s'.heap.hide kS).get? b = some o := fun hb e => (Heap.hide_ne _ hb).trans e
    refine PySem.W.keyH_end (κ := PySem.W.dataKind s'.heap (S.map fun g => PyData.tuple [.int (kf g).1, .int (kf g).2])) (h₁ := s'.heap.hide kS) (fun b o hb e => ?_) (Heap.hide_self _ _) nk' na' hka (PySem.W.SortsAt.data hk' hal hsk fun d hd => ?_) hsz hz' fun h' tk c kp hD => ⟨rfl, ?_⟩
    · have hb2 : b ≠ kS := fun z => by rw [z, Heap.hide_self] at e; cases e
      exact (Heap.hide_ne _ hb2).symm.trans e
    · obtain ⟨g, _, rfl⟩ := List.mem_map.mp hd
      have : (PyData.tuple [.int (kf g).1, .int (kf g).2]).depth = 1 := by simp [PyData.depth, PyData.depthAll]
      show X.A.units + 1 + 1 + _ < cLine
      omega
    · have eo := PySem.W.keyedOut_each (rev := false) (fun g => PyData.tuple [.int (kf g).1, .int (kf g).2]) ⟨s'.heap, kA.toList, hal, rfl, hk'⟩ each
      rw [PySem.W.dataLe_ii (fun g => (kf g).1) (fun g => (kf g).2)] at eo
      have hvals := vals_of_each eo
      have kp' : ∀ b, b ≠ a' → b ≠ kS → ∀ o, s'.heap.get? b = some o → h'.get? b = some o := fun b h1 h2 o e => kp b o h1 (hid h2 e)
      have hok3 : HOk X.prog X.w H' h' := hok_but2 hok nA nK fun b o h1 h2 e => kp' b h1 h2 o e
      have nHa : H a' = none := I.hok.fresh hsa
      have hlen2 : (vI (Srt2 kf S)).length ≤ sizeLine := by
        have : (vI (Srt2 kf S)).length = S.length := by
          rw [show (vI (Srt2 kf S)).length = (Srt2 kf S).length from vI_len _]
          exact List.length_mergeSort _
        omega
      refine ⟨.ref a', upd H' a' (.lst (vI (Srt2 kf S))), I.call' (ch := []) (s' := { s' with heap := h', toks := tk }) os (un_track (un_but2 un hpa hpk kp') hpa nHa) (HOk.laidN hok3 (fun _ _ e => e) nA ⟨hlen2, _, c, hvals, hD⟩) bare (fun b hb => absurd hb (by simp)), rfl, h a' _ nHa (fun b o e => ?_) upd_same⟩
      rw [upd_ne (fun z => by rw [z, nHa] at e; cases e)]
      exact ex b o e
end
end BA

namespace BA
open PySem PySem.Spec PyProof.Rows L2 Evl NdefX LamX

/-! ### a def whose code object is known -/
structure FunC (K : PySem.W.Frag) (x qual : Str) (st : Stmt) (f : Addr) (fd : FuncData) (c : Addr) : Prop where
  fn : Fun K x qual st f fd
  ex : ∃ (oc : Value) (od : Option Addr) (kV doc pm : Value) (an : Option Addr) (ct : Value) (osl : Array (Option Value)),
    fd = PySem.W.fnOf x qual (defArgs st) (defBody st) (defScope st) .none kV doc pm an (.ref c) ct ∧ K.lookup f = some ⟨oc, od, .func fd, osl⟩ ∧ PySem.W.codeIn K (.ref c) qual = true
theorem FunC.okX {P : Program} {w : World} {K : PySem.W.Frag} {mg : Str → Option Value} {base : Heap} {x qual : Str} {st : Stmt} {f : Addr} {fd : FuncData} {c : Addr} {N ps : List Str} {k : Nat} {sp : Sp} (F : FunC K x qual st f fd c) (S : FnScope N ps (defScope st)) (len : ∀ vs H Q E, sp vs H Q E → vs.length = ps.length)
    (hbody : ∀ (A : Around) (outer : List Env) (s : Shared) (H : Hp) (vs : List V) (Q : VK) (E : XK), Room k (A.deeper (envOfC qual (defScope st) s.heap.objs.size f (.ref c))) → sp vs H Q E →
      ∃ t, PSs (cxOf (L2.CX P w) P w K mg base N qual (defScope st) f (.ref c) A outer s H E) (defBody st) t ∧ t { nx := fun _ H' => Q .non H', rt := Q } (L2.start N vs) H) : FnOk P w K mg base (L2.CX P w) (k + 1) f fd ps sp := by
  obtain ⟨oc, od, kV, doc, pm, an, ct, osl, rfl, lk, hcd⟩ := F.ex
  exact fn_of lk hcd S len fun A outer s H vs Q E hr hsp => hbody A outer s H vs Q E hr hsp

/-! ### sorted(xs, key=lambda ..) -/
theorem sq_extN {K : PySem.W.Frag} {H H' : Hp} {a : Addr} {xs : List V} (h : SqL K H a xs) (e : ExtN H H') : SqL K H' a xs := by
  rcases h with (h | ⟨o, h⟩) | h
  · exact .inl (.inl (e _ _ h (fun ps z => by cases z)))
  · exact .inl (.inr ⟨o, e _ _ h (fun ps z => by cases z)⟩)
  · exact .inr h
def tSortL (K : PySem.W.Frag) (T : List (Addr × Str)) (kf : Nat → Int × Int) (okg : Nat → Prop) (t : TA) : TE := fun σ H Q => t σ H fun vs H1 => ∃ a S, vs = [V.ref a] ∧ SqL K H1 a (vI S) ∧ Tabs T H1 ∧ (∀ g ∈ S, okg g) ∧
  ∀ l H', ExtN H1 H' → Tabs T H' → H' l = some (.lst (vI (Srt2 kf S))) → Q (.ref l) H'
section
variable {X : Cx}
theorem pe_sortL {T : List (Addr × Str)} {c P : Addr} {k : Nat} {params : Arguments} {body : Expr} {scope : Scope} {N ps : List Str} {x : Str} {e : Expr} {t : TA} {te : TE} {kf : Nat → Int × Int} {okg : Nat → Prop} {p pos lpos kpos : Pos}
    (TB : TabB X.base X.mg c P) (hcode : X.env.code = .ref c) (hmT : (P, X.env.qual ++ "<lambda>") ∈ T) (hu : ∀ p ∈ T, p.1 = P → p.2 = X.env.qual ++ "<lambda>") (hr : Room (k + 3) X.A)
    (hg : Gl X x) (hm : X.mg x = none) (hv : bootBuiltins x = some (.builtin "sorted")) (ha : PA X [e] t)
    (S : NScope N ps [] scope) (hps : ps.length = 1) (hcl : ∀ cells, cloFrom cells scope.names [] = []) (hnf : ∀ y ∈ scope.names, y.2 ≠ .free) (hdef : defaultsOf params X.env = ([], []))
    (hbind : ∀ (q : Str) (cl : List (Str × Addr)) (pm cv ctv u : Value), bindArgs (PySem.W.kla_fn "<lambda>" q params body scope cl pm cv ctv) ⟨[u], []⟩ = pure (ps.zip [u]))
    (hbody : ∀ (F : NF) (A : Around) (outer : List Env) (s : Shared) (H : Hp) (E : XK) (f : Addr), F.scope = scope → Room k (A.deeper (envF F f s.heap.objs.size)) → PE (ncx (L2.CX X.prog X.w) X.prog X.w X.K X.mg X.base N F f A outer s H E) body te)
    (ht : ∀ (g : Nat) (H : Hp) (Q : VK), okg g → (∀ q H', Ex H H' → H' q = some (.tup [.int (kf g).1, .int (kf g).2]) → Q (.ref q) H') → te (startF N [.int (g : Nat)] []) H Q)
    (hn : x ≠ "__name__" := by decide) (hdb : (x == ("__debug__" : Str)) = false := by decide)
    (he : backTo pos (starEach [e] X.env) = (false, eval e X.env) :: backTo pos (starEach [] X.env) := by rfl) (hpl : (backTo pos (starEach [e] X.env)).any (·.1) = false := by rfl) :
    PE X (.Call (.Name x p) [e] [⟨some "key", .Lambda params body scope lpos, kpos⟩] pos) (tSortL X.K T kf okg t) := by
  refine ⟨fun pins s σ H Q I h => ?_⟩
  refine wpAny_Call_Name_kw (ld_blt I hg hm hv ?_ hn hdb)
  refine PyProof.Rows.callWith_kw (thn (ha.run pos pins s σ H _ I h) fun us s1 ⟨vs, H1, I1, r1, q1⟩ => ?_) he hpl
  obtain ⟨a, S0, rfl, hs, hT, hok, k1⟩ := q1
  obtain rfl := Vals.ref1 r1
  show wpAny _ _ (evalAll [(do let v ← eval (.Lambda params body scope lpos) X.env; standAt pos; pure v)]) _ _ s1
  refine wpAny_evalAll_cons (wpAny_bind (lam_make2 I1 TB hcode hmT hu hT hdef (fun y hy z => absurd z (hnf y hy)) fun f c' pm ctv H2 s2 I2 eN T2 hf hfn hfr hco => wpAny_bind (wpAny_standAt (wpAny_pure ?_))))
  refine wpAny_evalAll_nil ?_
  show wpAny _ _ (call (.builtin "sorted") [.ref a] [(Str.ofString "key", .ref f)]) _ _ s2
  refine sort_lam I2 (kf := kf) (sq_extN hs eN) hf hfn hfr (by have := hr.un; omega) (fun g u s' H' hgS ru e0 hf' ex => ?_) fun l H' _ ex h' => k1 l H' (eN.trans (ExtN.of ex)) (T2.ext ex) h'
  refine lam_runs (F := ⟨"<lambda>", X.env.qual ++ "<lambda>", params, [], scope, cloFrom X.env.cells scope.names [], c'⟩) (te := te) (vs := [.int (g : Nat)]) (k := k) S (hcl _) hr.in1.in1 e0 hf' (ex _ _ hco) (hbind _ _ _ _ _ _) (by rw [hps]; rfl) (.cons ru .nil)
    (hbody _ _ _ _ _ _ _ rfl (hr.in1.in1.deeper _)) (ht g H' _ (hok g hgS) fun q H'' e2 h2 => ⟨q, rfl, h2, e2⟩)
end
end BA

namespace BA
open PySem PySem.Spec PyProof.Rows L2 Evl LamX NdefX
open VamvsBase (Bytes)
open Vamvsa (columnsOf width sizeOf_)
open Vamvsd (parentNumber parentOf readOf oneCost buildCost lines planBy planOf inRank rank)

abbrev lamQ : Str := ("plan_with" ++ ".<locals>.") ++ "<lambda>"
def kfG (g : Nat) : Int × Int := (0 - ((ccount g : Nat) : Int), ((g : Nat) : Int))
theorem ht_lam : ∀ (g : Nat) (H : Hp) (Q : VK), g < 16 → (∀ q H', Ex H H' → H' q = some (.tup [.int (kfG g).1, .int (kfG g).2]) → Q (.ref q) H') →
    tTup (tCons (tOp (rI0 fun i j => .int (i - j)) (tC (.int 0)) (tG sp_column_count (fun _ => E0) (tCons (tVar 0) tNil))) (tCons (tVar 0) tNil)) (startF ["grouping"] [.int (g : Nat)] []) H Q := fun g H Q hg k =>
  eu_tup (vs := [.int (kfG g).1, .int (kfG g).2]) (ea_cons (ev_op ev_c (ev_g (ea_cons (ev_var rfl) ea_nil) fun H1 e Q q E => ⟨g, rfl, hg, q⟩) rv_I0) (ea_cons (ev_var rfl) ea_nil)) (by show (2 : Nat) ≤ 100000; decide) H (Ex.refl _) Q fun p H2 _ e h2 => k p H2 e h2
theorem order_is {t : Vamvsa.Table} {l : List Nat} (h4 : width t ≤ 4) (nd : l.Nodup) (hb : ∀ g ∈ l, g < 2 ^ width t) : Srt2 kfG l = inRank t l := by
  refine rank_order h4 nd hb (List.mergeSort_perm _ _) ?_
  have h := List.pairwise_mergeSort (le := fun p q : Nat => decide ((kfG p).1 < (kfG q).1 ∨ ((kfG p).1 = (kfG q).1 ∧ (kfG p).2 ≤ (kfG q).2))) (fun a b c h1 h2 => by
    rw [decide_eq_true_iff] at *
    omega) (fun a b => by
    rw [Bool.or_eq_true, decide_eq_true_iff, decide_eq_true_iff]
    omega) l
  refine List.Pairwise.imp_of_mem ?_ h
  intro p q hp hq hle
  have hp2 := (List.mergeSort_perm _ _).mem_iff.mp hp
  have hq2 := (List.mergeSort_perm _ _).mem_iff.mp hq
  have e1 := ccount_eq h4 (hb p hp2)
  have e2 := ccount_eq h4 (hb q hq2)
  have r1 := rank_le t p
  have r2 := rank_le t q
  have b1 := pow2_lt h4 (hb p hp2)
  have b2 := pow2_lt h4 (hb q hq2)
  rw [decide_eq_true_iff] at hle
  have k1 : (kfG p).1 = 0 - ((rank t p : Nat) : Int) := by show (0 - ((ccount p : Nat) : Int)) = _; rw [e1]
  have k2 : (kfG q).1 = 0 - ((rank t q : Nat) : Int) := by show (0 - ((ccount q : Nat) : Int)) = _; rw [e2]
  have k3 : (kfG p).2 = (p : Nat) := rfl
  have k4 : (kfG q).2 = (q : Nat) := rfl
  rw [k1, k2, k3, k4] at hle
  unfold rkey
  omega
section
variable {K : PySem.W.Frag} {σ : L2.St} {H H' : Hp} {ta tb te tl : TE} {x y z v : V} {D : Ends} {tu tw tz : TS} {tg : TG}
theorem q_appU {l : Addr} {xs us : List V} (hl : H l = some (.lst xs)) (ha : Ev ta σ H (.ref l)) (h : EvU te σ H us) (hz : xs.length < 100000) (k : ∀ q H1, H q = none → Ex H H1 → H1 q = some (.tup us) → tz D σ (upd H1 l (.lst (xs ++ [.ref q])))) :
    tSeq (tDrop (tBM K "list" rAppend ta (tCons te tNil))) tz D σ H := ha H (Ex.refl H) _ fun H1 e1 =>
  ⟨Or.inl ⟨rfl, xs, sq_of (e1 l _ hl)⟩, h H1 e1 _ fun q H2 hq e2 h2 => ⟨l, xs, .ref q, rfl, rfl, (e1.trans e2) l _ hl, sz_lt hz, k q H2 (fresh_back e1 hq) (e1.trans e2) h2⟩⟩
/-- if c: xs.append(e) -/
theorem q_whenApp {t : TT} {b : Bool} {l : Addr} {xs : List V} (h : EvT t σ H b) (hl : H l = some (.lst xs)) (ha : Ev ta σ H (.ref l)) (hx : Ev te σ H v) (hz : xs.length < 100000) (k : ∀ H1, FrL [l] H H1 → H1 l = some (.lst (xs ++ if b = true then [v] else [])) → tz D σ H1) :
    tSeq (tIfS t (tDrop (tBM K "list" rAppend ta (tCons te tNil))) tNext) tz D σ H := by
  refine q_when h (fun hb H1 e1 => ?_) (fun hb H1 e1 => ?_)
  · refine s_app (e1 _ _ hl) (ha.mono e1) (hx.mono e1) hz fun H2 e2 => k _ ((FrL.ex (e1.trans e2)).trans (FrL.up (by simp))) ?_
    rw [upd_same, if_pos hb]
  · refine k H1 (FrL.ex e1) ?_
    rw [if_neg (by rw [hb]; decide), List.append_nil]
    exact e1 _ _ hl
/-- a comprehension over a list, its items new tuples -/
theorem elp_lcU {a : Addr} {S : List Nat} {j : Nat} {vs : List Nat} (g : Nat → List V) (h : Ev tl σ H (.ref a)) (hx : SqL K H a (vI S)) (hz : S.length ≤ 40000) (hw : ∀ x, wipe ((wipe σ vs).set j (some x)) vs = wipe σ vs)
    (he : ∀ (n : Nat) H1, Ex H H1 → n ∈ S → EvU te ((wipe σ vs).set j (some (.int (n : Nat)))) H1 (g n)) : EvLP (tLc (iList K tl) (gName j) tYes te vs) σ H (fun ys H2 => Paired (fun y n => ∃ q, y = V.ref q ∧ H2 q = some (.tup (g n))) ys S) := fun H0 e Q q => h H0 e _ fun H1 e1 => ⟨a, rfl, ⟨vI S, ex_l (e.trans e1) hx⟩, fun Dl hD =>
  lc_list (xs := vI S) (fun i H' => Ex H1 H' ∧ i ≤ S.length ∧ ∃ ys, H' Dl = some (.lst ys) ∧ Paired (fun y n => ∃ q, y = V.ref q ∧ H' q = some (.tup (g n))) ys (S.take i)) ⟨Ex.new hD, Nat.zero_le _, [], upd_same, .nil⟩ (fun i H' _ p => ex_l ((e.trans e1).trans p.1) hx)
    (fun i x H' hi ⟨p1, hil, ys, p2, p3⟩ => ⟨hw x, by
      obtain ⟨n, hn, hm, rfl⟩ := vI_mem hi
      have hlt := (List.getElem?_eq_some_iff.mp hn).1
      have hyl : ys.length = i := by
        have := prs_len p3
        rw [List.length_take] at this
        omega
      refine he n H' ((e.trans e1).trans p1) hm H' (Ex.refl _) _ fun r H3 hr e3 h3 => ⟨ys, e3 _ _ p2, sz_lt (by omega), Ex.mut (p1.trans e3) hD, hlt, ys ++ [.ref r], upd_same, ?_⟩
      have kp : ∀ {b : Addr} {ts : List V}, H3 b = some (.tup ts) → upd H3 Dl (.lst (ys ++ [.ref r])) b = some (.tup ts) := fun hb => by
        rw [upd_ne (ne_of hb (e3 _ _ p2) (by intro w; cases w))]
        exact hb
      rw [List.take_succ, hn]
      exact prs_app (prs_imp (fun _ _ ⟨q, e, hq⟩ => ⟨q, e, kp (e3 _ _ hq)⟩) p3) (.cons ⟨r, rfl, kp h3⟩ .nil)⟩)
    (fun H' ⟨p1, _, ys, p2, p3⟩ => q Dl ys H' (fresh_back e1 hD) (e1.trans p1) p2 (by
      have e9 : (vI S).length = S.length := vI_len S
      rw [e9, List.take_length] at p3
      exact p3))⟩
theorem q_extP {P : List V → Hp → Prop} {l : Addr} {xs : List V} {n : Nat} (hl : H l = some (.lst xs)) (ha : Ev ta σ H (.ref l)) (h : EvLP te σ H P) (hP : ∀ ys H', P ys H' → ys.length ≤ n) (hz : xs.length + n ≤ 100000)
    (k : ∀ H1 ys, Ex H H1 → P ys H1 → tz D σ (upd H1 l (.lst (xs ++ ys)))) :
    tSeq (tDrop (tBM K "list" rExtend ta (tCons te tNil))) tz D σ H := ha H (Ex.refl H) _ fun H1 e1 =>
  ⟨Or.inl ⟨rfl, xs, sq_of (e1 l _ hl)⟩, h H1 e1 _ fun p ys H2 hp e2 h2 hn => ⟨l, p, xs, ys, rfl, rfl, (e1.trans e2) l _ hl, h2, sz_of (by have := hP _ _ hn; omega), k H2 ys (e1.trans e2) hn⟩⟩
end
def sp_plan_with (a : Ad) (tp : Addr) : Sp := fun vs H Q _ => ∃ (z p r : Addr) (t : Vamvsa.Table) (W hs : List Nat), vs = [.ref z, .ref p, .ref r] ∧ SzAt a H z t ∧ H p = some (.lst (vI W)) ∧ H r = some (.lst (vI hs)) ∧ (W ++ hs).Nodup ∧ (∀ g ∈ W ++ hs, g < 2 ^ width t) ∧ Tabs [(tp, lamQ)] H ∧
  ∀ l qs H', ExtN H H' → Tabs [(tp, lamQ)] H' → H' l = some (.lst (refs qs)) → StL H' qs (planOf t W hs) → Q (.ref l) H'
theorem SzAt.extN {a : Ad} {H H' : Hp} {z : Addr} {t : Vamvsa.Table} (h : SzAt a H z t) (e : ExtN H H') : SzAt a H' z t := by
  obtain ⟨⟨dx, l, h1, h2⟩, h3⟩ := h
  exact ⟨⟨dx, l, e _ _ h1 (fun _ w => nomatch w), e _ _ h2 (fun _ w => nomatch w)⟩, h3⟩
theorem StL.app {H : Hp} {qs qs' : List Addr} {a b : List Stp} (h : StL H qs a) (k : StL H qs' b) : StL H (qs ++ qs') (a ++ b) := prs_app h k
theorem StL.up {H : Hp} {qs : List Addr} {a : List Stp} {l : Addr} {xs ys : List V} (h : StL H qs a) (hl : H l = some (.lst xs)) : StL (upd H l (.lst ys)) qs a := prs_imp (fun _ _ q => kpT hl q) h
theorem inV_ints (i : Int) : ∀ l : List Int, inV (.int i) (l.map V.int) = decide (i ∈ l)
  | [] => rfl
  | a :: l => by
    have ih := inV_ints i l
    show ((a == i) || inV (.int i) (l.map V.int)) = _
    rw [ih, Bool.eq_iff_iff, Bool.or_eq_true, beq_iff_eq, decide_eq_true_iff, decide_eq_true_iff, List.mem_cons]
    exact ⟨fun h => h.imp Eq.symm id, fun h => h.imp Eq.symm id⟩
theorem flat_ints : ∀ l : List Int, (l.map V.int).all flatV = true
  | [] => rfl
  | _ :: l => flat_ints l
theorem ni_ints {K : PySem.W.Frag} {H : Hp} {i : Int} {l : List Int} {x : Addr} (h : H x = some (.lst (l.map V.int))) : RV (rIn K true) (.int i) (.ref x) H (.bl (!decide (i ∈ l))) := by
  have := rv_niL (K := K) (x := .int i) (sq_of h) rfl (flat_ints l)
  rw [inV_ints] at this
  exact this
theorem in_ints {K : PySem.W.Frag} {H : Hp} {i : Int} {l : List Int} {x : Addr} (h : H x = some (.lst (l.map V.int))) : RV (rIn K false) (.int i) (.ref x) H (.bl (decide (i ∈ l))) := by
  have := rv_isL (K := K) (x := .int i) (sq_of h) rfl (flat_ints l)
  rw [inV_ints] at this
  exact this
theorem drops_of {H : Hp} {ys : List V} {L : List Nat} (h : Paired (fun y n => ∃ q, y = V.ref q ∧ H q = some (.tup [V.int (n : Nat), .int (-2)])) ys L) : ∃ qs, ys = refs qs ∧ StL H qs (L.map fun h => .drop h) := by
  induction h with
  | nil => exact ⟨[], rfl, .nil⟩
  | cons hh _ ih =>
    obtain ⟨q, rfl, hq⟩ := hh
    obtain ⟨qs, rfl, hs⟩ := ih
    exact ⟨q :: qs, rfl, .cons hq hs⟩
section
variable {P : Program} {w : World} {K : PySem.W.Frag} {mg : Str → Option Value} {base : Heap} {a : Ad} {H H' : Hp} {σ : L2.St} {D : Ends} {tz : TS} {ta tb te : TE} {c tp : Addr}
theorem ok_plan_with (T : Txt K mg a) (FC : ∃ fd, FunC K "plan_with" "plan_with" s_plan_with a.f_plan_with fd c) (TB : TabB base mg c tp) : Good P w K mg base 5 a.f_plan_with ["sizes", "wished", "helpers"] (sp_plan_with a tp) := by
  obtain ⟨fd, F⟩ := FC
  refine ⟨⟨fd, F.okX sc_plan_with (fun vs H Q E h => ?_) (fun A outer s H vs Q E hr h => ⟨_, (pss_cons (ps_set (i := 3) sc_plan_with.nd rfl (Or.inr rfl) (pe_op op_cat (pv 1) (pv 2)))
    (pss_cons (ps_set (i := 4) sc_plan_with.nd rfl (Or.inl rfl) (pe_sortL (k := 1) (N := ["grouping"]) (ps := ["grouping"]) (T := [(tp, lamQ)]) (kf := kfG) (okg := fun g => g < 16) TB rfl (List.mem_singleton.mpr rfl) (fun p hp _ => by rw [List.mem_singleton.mp hp]; rfl) (hr.mono (by decide)) (by rfl) T.b_sorted (by decide +kernel) (pa_cons (pv 3) pa_nil) (nscope_by (by decide +kernel)) rfl (fun _ => rfl) (by decide +kernel) (by rfl) (fun _ _ _ _ _ _ => rfl) (fun F A outer s H E f hF hr => by (obtain ⟨_, _, _, _, sc, _, _⟩ := F; subst hF; exact (pe_tup (pa_cons (pe_op op_sub pe_int (pe_g (ok_column_count T) hr rfl T.m_column_count (E := fun _ => E0) px0 (pa_cons (pv 0) pa_nil))) (pa_cons (pv 0) pa_nil))))) ht_lam))
    (pss_cons (ps_par (i := 5) (j := 6) (by rfl) sc_plan_with.nd rfl rfl (by decide) rfl rfl (pa_cons (pe_lst pa_nil) (pa_cons (pe_lst pa_nil) pa_nil)) (by rfl))
    (pss_cons (ps_for (passes_of rfl) rfl (pi_enum (by rfl) T.b_enumerate (pa_cons (pv 4) pa_nil)) (pg_tup rfl (pgs_cons (pg_name (i := 7) sc_plan_with.nd rfl (Or.inl rfl)) (pgs_cons (pg_name (i := 8) sc_plan_with.nd rfl (Or.inl rfl)) pgs_nil)))
      (pss_cons (ps_expr (pe_bm PySem.F.plainAttrs_list PySem.F.slot_list_append PySem.F.type_list_append mt_append (pv 5) (pa_cons (pe_tup (pa_cons (pv 8) (pa_cons (pe_gm (ok_Sizes_parent_in T) (pv 0) T.cl_Sizes T.me_Sizes_parent_in (hr.mono (by decide)) (E := fun _ => E0) px0 (pa_cons (pv 3) (pa_cons (pv 8) pa_nil))) pa_nil))) pa_nil)))
    (pss_cons (ps_if (pt_cmpR op_in_seq (pv 8) (pv 2) (by rfl))
      (pss_one (ps_expr (pe_bm PySem.F.plainAttrs_list PySem.F.slot_list_append PySem.F.type_list_append mt_append (pv 6) (pa_cons (pv 8) pa_nil))))
      pss_nil)
    (pss_cons (ps_set (i := 9) sc_plan_with.nd rfl (Or.inr rfl) (pe_lc (own := [("other", 11)]) rfl sc_plan_with.nd (pi_list (pe_slice sl_list (pv 4) (po_some (pe_op op_add (pv 7) pe_int)) po_none)) (blkOk_by (own := [("other", 11)]) (N := ["sizes", "wished", "helpers", "every", "order", "steps", "kept", "at", "grouping", "parents", "idle", "other", "helper"]) (sc := defScope s_plan_with) (by decide +kernel)) (fun _ _ _ _ _ => (pg_name (i := 11) sc_plan_with.nd rfl (Or.inl rfl))) (fun _ _ _ _ _ => pts_nil) (fun _ _ _ _ _ => (pe_gm (ok_Sizes_parent_in T) (pv 0) T.cl_Sizes T.me_Sizes_parent_in (hr.mono (by decide)) (E := fun _ => E0) px0 (pa_cons (pv 3) (pa_cons (pv 11) pa_nil))))))
    (pss_cons (ps_setLc (i := 10) (own := [("helper", 12)]) rfl sc_plan_with.nd rfl rfl (sw_true rfl rfl rfl (by decide +kernel)) (pi_list (pe_callB cr_sortedI (by rfl) T.b_sorted (by decide +kernel) (pa_cons (pv 6) pa_nil))) (blkOk_by (own := [("helper", 12)]) (N := ["sizes", "wished", "helpers", "every", "order", "steps", "kept", "at", "grouping", "parents", "idle", "other", "helper"]) (sc := defScope s_plan_with) (by decide +kernel)) (fun _ _ _ _ _ => (pg_name (i := 12) sc_plan_with.nd rfl (Or.inl rfl))) (fun _ _ _ _ _ => (pts_one (pt_cmpR (op_notIn_seqK (K := K)) (pv 12) (pv 9) (by rfl)))) (fun _ _ _ _ _ => (pv 12)))
    (pss_cons (ps_expr (pe_bm PySem.F.plainAttrs_list PySem.F.slot_list_extend PySem.F.type_list_extend mt_extend (pv 5) (pa_cons (pe_lc (own := [("helper", 12)]) rfl sc_plan_with.nd (pi_list (pv 10)) (blkOk_by (own := [("helper", 12)]) (N := ["sizes", "wished", "helpers", "every", "order", "steps", "kept", "at", "grouping", "parents", "idle", "other", "helper"]) (sc := defScope s_plan_with) (by decide +kernel)) (fun _ _ _ _ _ => (pg_name (i := 12) sc_plan_with.nd rfl (Or.inl rfl))) (fun _ _ _ _ _ => pts_nil) (fun _ _ _ _ _ => (pe_tup (pa_cons (pv 12) (pa_cons (pe_gi rfl T.m_DROPPED) pa_nil))))) pa_nil)))
    (pss_one (ps_setLc (i := 6) (own := [("helper", 12)]) rfl sc_plan_with.nd rfl rfl (sw_true rfl rfl rfl (by decide +kernel)) (pi_list (pv 6)) (blkOk_by (own := [("helper", 12)]) (N := ["sizes", "wished", "helpers", "every", "order", "steps", "kept", "at", "grouping", "parents", "idle", "other", "helper"]) (sc := defScope s_plan_with) (by decide +kernel)) (fun _ _ _ _ _ => (pg_name (i := 12) sc_plan_with.nd rfl (Or.inl rfl))) (fun _ _ _ _ _ => (pts_one (pt_cmpR (op_in_seqK (K := K)) (pv 12) (pv 9) (by rfl)))) (fun _ _ _ _ _ => (pv 12))))))))))
    (pss_one (ps_ret (pv 5))))))), ?_⟩), F.fn.binds fun _ _ _ _ _ _ us hl => match us, hl with | [_, _, _], _ => rfl⟩, T.k_plan_with⟩
  · obtain ⟨z, p, r, t, W, hs, rfl, _⟩ := h
    rfl
  · obtain ⟨z, p, r, t, W, hs, rfl, SZ, hp, hr2, nd, hb, hT, k⟩ := h
    obtain ⟨⟨dx0, lz0, k1, k2⟩, wf⟩ := id SZ
    have h16 := pow_le16 wf.c4
    have hWl : (W ++ hs).length ≤ 16 := Nat.le_trans (nodup_lt_len nd hb) h16
    rw [List.length_append] at hWl
    refine q_asgL (el_catVV (ev_var rfl) hp (ev_var rfl) hr2 (by rw [vI_len, vI_len]; omega)) fun ev H1 nev e1 hev0 => ?_
    have hev : H1 ev = some (.lst (vI (W ++ hs))) := hev0.trans (congrArg (fun x => some (HO.lst x)) (List.map_append).symm)
    refine q_asgR (ea_cons (ev_var rfl) ea_nil H1 (Ex.refl _) _ fun H2 e2 => ⟨ev, W ++ hs, rfl, sq_of (e2 _ _ hev), fun q hq => (hT q hq).ext (e1.trans e2), fun g hg => pow2_lt wf.c4 (hb g hg), fun od H3 eN T3 hod => ?_⟩)
    rw [order_is wf.c4 nd hb] at hod
    have hOp : (inRank t (W ++ hs)).Perm (W ++ hs) := by
      rw [← order_is wf.c4 nd hb]
      exact List.mergeSort_perm _ _
    have hplan : planOf t W hs = planBy t (W ++ hs) ((List.range (2 ^ width t)).filter fun h => hs.contains h) (inRank t (W ++ hs)) [] := rfl
    generalize inRank t (W ++ hs) = O at hod hOp hplan
    have hOn : O.Nodup := hOp.nodup_iff.mpr nd
    have hOb : ∀ g ∈ O, g < 2 ^ width t := fun g hg => hb g (hOp.mem_iff.mp hg)
    have hOl : O.length ≤ 16 := by
      rw [hOp.length_eq, List.length_append]
      exact hWl
    have hsb : ∀ h ∈ hs, h < 2 ^ width t := fun h hh => hb h (List.mem_append.mpr (.inr hh))
    have hsO : ∀ h ∈ hs, h ∈ O := fun h hh => hOp.mem_iff.mpr (List.mem_append.mpr (.inr hh))
    have eN0 : ExtN H H3 := (ExtN.of (e1.trans e2)).trans eN
    have SZ3 := SZ.extN eN0
    have hev3 : H3 ev = some (.lst (vI (W ++ hs))) := eN _ _ (e2 _ _ hev) (fun _ w => nomatch w)
    have hr3 : H3 r = some (.lst (vI hs)) := eN0 _ _ hr2 (fun _ w => nomatch w)
    have bdA : Bd t (W ++ hs) := ⟨hb, by rw [List.length_append]; omega⟩
    obtain ⟨⟨dx, lz, k1, k2⟩, _⟩ := id SZ3
    refine q_parLL (el_lst ea_nil (by decide)) (el_lst ea_nil (by decide)) fun st kp0 H4 nst nkp0 nsk e4 hst hkp0 => ?_
    have hK0 : KeptIs hs (O.drop 0) [] [] := ⟨.nil, fun h => by
      rw [List.drop_zero]
      constructor
      · intro z
        cases z
      · rintro ⟨h1, h2, _⟩
        exact absurd (hsO h h1) h2⟩
    refine q_forE (xs := vI O) (ev_var rfl) (sq_of (e4 _ _ hod)) (fun i σ' H' => ∃ (kp : Addr) (qs : List Addr) (done : List Stp) (gone kept : List Nat) (x7 x8 x9 x10 : Option V), σ' = [some (.ref z), some (.ref p), some (.ref r), some (.ref ev), some (.ref od), some (.ref st), some (.ref kp), x7, x8, x9, x10, none, none] ∧
      Ex H3 H' ∧ H' st = some (.lst (refs qs)) ∧ H' kp = some (.lst (vI kept)) ∧ kp ≠ st ∧ H3 kp = none ∧ StL H' qs done ∧ KeptIs hs (O.drop i) gone kept ∧ (∀ h ∈ gone, h ∉ O.drop i) ∧ planOf t W hs = done ++ planBy t (W ++ hs) ((List.range (2 ^ width t)).filter fun h => hs.contains h) (O.drop i) gone ∧ qs.length ≤ 17 * i)
      (fun H5 e5 => ⟨kp0, [], [], [], [], none, none, none, none, rfl, e4.trans e5, e5 _ _ hst, e5 _ _ hkp0, nsk.symm, nkp0, .nil, hK0, (fun h z => (nomatch z)), hplan, Nat.le_refl _⟩) (fun i σ' H' _ ⟨_, _, _, _, _, _, _, _, _, _, e, _⟩ => sq_of (e _ _ hod)) ?_ ?_
    · rintro i x σ' H' H2 hi ⟨kp, qs, done, gone, kept, x7, x8, x9, x10, rfl, e5, hst5, hkp5, nks, nk3, hSt, hK, hgo, hpl, hql⟩ e6
      obtain ⟨g, hg, hgm, rfl⟩ := vI_mem hi
      have hil := (List.getElem?_eq_some_iff.mp hg).1
      have hdrop : O.drop i = g :: O.drop (i + 1) := by
        rw [List.drop_eq_getElem_cons hil]
        congr 1
        rw [List.getElem?_eq_getElem hil] at hg
        exact Option.some.inj hg
      rw [hdrop] at hK hgo hpl
      have hgb := hOb g hgm
      have hnd : (g :: O.drop (i + 1)).Nodup := by
        rw [← hdrop]
        exact hOn.sublist (List.drop_sublist _ _)
      have hkl : kept.length ≤ 16 := Nat.le_trans (nodup_lt_len hK.1 fun h hh => hsb h ((hK.2 h).mp hh).1) h16
      have e56 := e5.trans e6
      -- steps.append
      refine q_appU (xs := refs qs) (us := [.int (g : Nat), .int (parentNumber (parentOf t (W ++ hs) g))]) (e6 _ _ hst5) (ev_var rfl) (eu_tup (ea_cons (ev_var rfl) (ea_cons (ev_gm (ev_var rfl) (e56 _ _ k1) (szF_none _ _ (by decide +kernel) (by decide +kernel)) (ea_cons (ev_var rfl) (ea_cons (ev_var rfl) ea_nil)) fun H7 e7 Q q E => ⟨z, ev, t, W ++ hs, g, rfl, SZ3.ex (e56.trans e7), sq_of ((e56.trans e7) _ _ hev3), bdA, hgb, q⟩) ea_nil)) (by show (2 : Nat) ≤ 100000; decide)) (by rw [refs_len]; omega) fun q1 H7 nq1 e7 hq1 => ?_
      have hst7 := e7 _ _ (e6 _ _ hst5)
      have hS8 : StL (upd H7 st (.lst (refs qs ++ [.ref q1]))) (qs ++ [q1]) (done ++ [makeOf t (W ++ hs) g]) := by
        refine StL.app ((hSt.ex (e6.trans e7)).up hst7) (.cons ?_ .nil)
        rw [make_pair]
        exact kpT hst7 hq1
      have e8 : Ex H3 (upd H7 st (.lst (refs qs ++ [.ref q1]))) := Ex.mut (e56.trans e7) nst
      have hst8 : upd H7 st (.lst (refs qs ++ [.ref q1])) st = some (.lst (refs (qs ++ [q1]))) := by
        rw [upd_same]
        unfold refs
        rw [List.map_append]
        rfl
      have hkp8 : upd H7 st (.lst (refs qs ++ [.ref q1])) kp = some (.lst (vI kept)) := by
        rw [upd_ne nks]
        exact e7 _ _ (e6 _ _ hkp5)
      generalize upd H7 st (.lst (refs qs ++ [.ref q1])) = H8 at hS8 e8 hst8 hkp8
      -- if grouping in helpers: kept.append
      refine q_whenApp (b := hs.contains g) (et_test (ev_op (ev_var rfl) (ev_var rfl) (in_sites g hs (e8 _ _ hr3)))) hkp8 (ev_var rfl) (ev_var rfl) (by rw [vI_len]; omega) fun H9 f9 hkp9 => ?_
      have ek1 : vI kept ++ (if hs.contains g = true then [V.int (g : Nat)] else []) = vI (kept ++ if hs.contains g = true then [g] else []) := by
        unfold vI
        rw [List.map_append]
        split <;> rfl
      rw [ek1] at hkp9
      obtain ⟨hL, hK2⟩ := turn_left (t := t) (all := W ++ hs) hK hnd hsb (fun hgh z => hgo g z List.mem_cons_self)
      have hk1l : (kept ++ if hs.contains g = true then [g] else []).length ≤ 17 := by
        rw [List.length_append]
        split
        · show kept.length + 1 ≤ 17
          omega
        · show kept.length + 0 ≤ 17
          omega
      generalize (kept ++ if hs.contains g = true then [g] else []) = kept1 at hkp9 hL hK2 hk1l
      have e9 : Ex H3 H9 := FrL.new (l := [kp]) ((FrL.ex e8).trans f9) fun b hb => by rw [List.mem_singleton.mp hb]; exact nk3
      have hst9 : H9 st = some (.lst (refs (qs ++ [q1]))) := f9.at1 hst8 nks.symm
      have hS9 : StL H9 (qs ++ [q1]) (done ++ [makeOf t (W ++ hs) g]) := prs_imp (fun q s hq => f9.at1 hq (ne_of hq hkp8 (by intro w; cases w))) hS8
      -- parents
      have hdl : (O.drop (i + 1)).length ≤ 16 := by rw [List.length_drop]; omega
      refine q_asgL (xs := (parentsOf t (W ++ hs) (O.drop (i + 1))).map V.int) ?_ fun pa H10 npa e10 hpa => ?_
      · have eg : given (vI (O.drop (i + 1))).length (fun _ => true) (fun j => V.int (parentNumber (parentOf t (W ++ hs) ((O.drop (i + 1)).getD j 0)))) = (parentsOf t (W ++ hs) (O.drop (i + 1))).map V.int := by
          rw [given_all, vI_len, range_map_get (O.drop (i + 1)) fun x => V.int (parentNumber (parentOf t (W ++ hs) x))]
          unfold parentsOf
          rw [List.map_map]
          rfl
        rw [← eg]
        have ecut : cutV (vI O) (some ((i : Nat) + 1 : Int)) none = vI (O.drop (i + 1)) := by
          show cutV (vI O) (some ((i + 1 : Nat) : Int)) none = _
          unfold cutV
          rw [HT.sIx_nat, HT.sIx_none, vI_len, Nat.min_eq_left (by omega)]
          unfold vI
          rw [← List.map_drop, List.take_of_length_le (by rw [List.length_map, List.length_drop]; exact Nat.le_refl _)]
        refine el_lcNL _ _ (by rw [← ecut]; exact el_sl (ev_var rfl) (eo_some (ev_op (ev_var rfl) ev_c rv_I0)) eo_none (sq_of (e9 _ _ hod))) (by rw [vI_len]; omega) (fun _ => rfl) (fun j x H11 e11 hj => fun H12 e12 Q q => q H12 (Ex.refl _)) fun j x H11 e11 hj hf => ?_
        obtain ⟨n, hn, rfl⟩ := vI_get hj
        rw [show (O.drop (i + 1)).getD j 0 = n by rw [List.getD_eq_getElem?_getD, hn]; rfl]
        have hnb := hOb n (List.mem_of_mem_drop (List.mem_of_getElem? hn))
        exact ev_gm (ev_var rfl) (e11 _ _ (e9 _ _ k1)) (szF_none _ _ (by decide +kernel) (by decide +kernel)) (ea_cons (ev_var rfl) (ea_cons (ev_var rfl) ea_nil)) fun H7 e7 Q q E => ⟨z, ev, t, W ++ hs, n, rfl, SZ3.ex ((e9.trans e11).trans e7), sq_of (((e9.trans e11).trans e7) _ _ hev3), bdA, hnb, q⟩
      have e30 := e9.trans e10
      have hgo2 : ∀ h ∈ gone ++ leftOf t (W ++ hs) ((List.range (2 ^ width t)).filter fun h => hs.contains h) (O.drop (i + 1)) gone, h ∉ O.drop (i + 1) := fun h hh => by
        rcases List.mem_append.mp hh with hh | hh
        · exact fun z => hgo h hh (List.mem_cons_of_mem _ z)
        · have := (List.mem_filter.mp hh).2
          simp only [Bool.and_eq_true, Bool.not_eq_true', ← Bool.not_eq_true, List.contains_iff_mem] at this
          exact this.2.1
      have hll : (leftOf t (W ++ hs) ((List.range (2 ^ width t)).filter fun h => hs.contains h) (O.drop (i + 1)) gone).length ≤ 16 := by
        refine Nat.le_trans (List.length_filter_le _ _) (Nat.le_trans (List.length_filter_le _ _) ?_)
        rw [List.length_range]
        exact h16
      rw [planBy_cons] at hpl
      -- idle
      refine q_asgL (xs := vI ((srt kept1).filter fun h => !decide (((h : Nat) : Int) ∈ parentsOf t (W ++ hs) (O.drop (i + 1))))) ?_ fun id H11 nid e11 hid => ?_
      · rw [← given_filter]
        refine el_lcNL _ _ (el_sorted (ev_var rfl) (sq_of (e10 _ _ hkp9))) (by rw [vI_len, srt_len]; omega) (fun _ => rfl) (fun j x H11 e11 hj => ?_) fun j x H11 e11 hj hf => ?_
        · obtain ⟨n, hn, rfl⟩ := vI_get hj
          rw [show (srt kept1).getD j 0 = n by rw [List.getD_eq_getElem?_getD, hn]; rfl]
          exact et_test (ev_op (ev_var rfl) (ev_var rfl) (ni_ints (e11 _ _ hpa)))
        · obtain ⟨n, hn, rfl⟩ := vI_get hj
          rw [show (srt kept1).getD j 0 = n by rw [List.getD_eq_getElem?_getD, hn]; rfl]
          exact ev_var rfl
      rw [hL] at hid
      generalize leftOf t (W ++ hs) ((List.range (2 ^ width t)).filter fun h => hs.contains h) (O.drop (i + 1)) gone = L at hid hK2 hgo2 hll hpl
      -- steps.extend
      refine q_extP (n := 16) ((e10.trans e11) _ _ hst9) (ev_var rfl) (elp_lcU (fun n => [.int (n : Nat), .int (-2)]) (ev_var rfl) (sq_of hid) (by omega) (fun _ => rfl) fun n H12 e12 hn => eu_tup (ea_cons (ev_var rfl) (ea_cons ev_c ea_nil)) (by show (2 : Nat) ≤ 100000; decide)) (fun ys H' hP => by rw [prs_len hP]; exact hll) (by rw [refs_len, List.length_append]; show qs.length + 1 + 16 ≤ 100000; omega) fun H12 ys e12 hys => ?_
      obtain ⟨qs2, rfl, hS2⟩ := drops_of hys
      have hst12 := e12 _ _ ((e10.trans e11) _ _ hst9)
      have e312 := (e30.trans e11).trans e12
      have hS13 : StL (upd H12 st (.lst (refs (qs ++ [q1]) ++ refs qs2))) (qs ++ [q1] ++ qs2) (done ++ [makeOf t (W ++ hs) g] ++ L.map fun h => .drop h) := ((hS9.ex ((e10.trans e11).trans e12)).up hst12).app (hS2.up hst12)
      have e13 : Ex H3 (upd H12 st (.lst (refs (qs ++ [q1]) ++ refs qs2))) := Ex.mut e312 nst
      have hst13 : upd H12 st (.lst (refs (qs ++ [q1]) ++ refs qs2)) st = some (.lst (refs (qs ++ [q1] ++ qs2))) := by
        rw [upd_same]
        unfold refs
        rw [List.map_append (l₂ := qs2)]
      have hkp13 : upd H12 st (.lst (refs (qs ++ [q1]) ++ refs qs2)) kp = some (.lst (vI kept1)) := by
        rw [upd_ne nks]
        exact e12 _ _ (e11 _ _ (e10 _ _ hkp9))
      have hpa13 : upd H12 st (.lst (refs (qs ++ [q1]) ++ refs qs2)) pa = some (.lst ((parentsOf t (W ++ hs) (O.drop (i + 1))).map V.int)) := by
        rw [upd_ne (ne_of_none hst9 npa).symm]
        exact e12 _ _ (e11 _ _ hpa)
      generalize upd H12 st (.lst (refs (qs ++ [q1]) ++ refs qs2)) = H13 at hS13 e13 hst13 hkp13 hpa13
      -- kept
      refine s_asgL (xs := vI (kept1.filter fun h => decide (((h : Nat) : Int) ∈ parentsOf t (W ++ hs) (O.drop (i + 1))))) ?_ fun kp2 H14 nkp2 e14 hkp2 => ?_
      · rw [← given_filter]
        refine el_lcL _ _ (ev_var rfl) (sq_of hkp13) (by rw [vI_len]; omega) (fun _ => rfl) (fun j x H11 e11 hj => ?_) fun j x H11 e11 hj hf => ?_
        · obtain ⟨n, hn, rfl⟩ := vI_get hj
          rw [show kept1.getD j 0 = n by rw [List.getD_eq_getElem?_getD, hn]; rfl]
          exact et_test (ev_op (ev_var rfl) (ev_var rfl) (in_ints (e11 _ _ hpa13)))
        · obtain ⟨n, hn, rfl⟩ := vI_get hj
          rw [show kept1.getD j 0 = n by rw [List.getD_eq_getElem?_getD, hn]; rfl]
          exact ev_var rfl
      have l2 : qs2.length = L.length := by
        rw [prs_len hS2, List.length_map]
      refine ⟨kp2, qs ++ [q1] ++ qs2, done ++ [makeOf t (W ++ hs) g] ++ L.map (fun h => .drop h), gone ++ L, _, _, _, _, _, rfl, e13.trans e14, e14 _ _ hst13, hkp2, (ne_of_none hst13 nkp2).symm, fresh_back e13 nkp2, hS13.ex e14, hK2, hgo2, ?_, ?_⟩
      · rw [hpl]
        simp only [List.append_assoc, List.cons_append, List.nil_append]
      · rw [List.length_append, List.length_append, l2]
        show qs.length + 1 + L.length ≤ _
        omega
    · rintro σ' H' ⟨kp, qs, done, gone, kept, x7, x8, x9, x10, rfl, e5, hst5, hkp5, nks, nk3, hSt, hK, hgo, hpl, hql⟩
      have e0 : (vI O).length = O.length := vI_len O
      rw [e0, List.drop_length] at hpl
      have hpl : planOf t W hs = done ++ [] := hpl
      rw [List.append_nil] at hpl
      exact s_ret (ev_var rfl) fun H6 e6 => k st qs H6 (eN0.trans (ExtN.of (e5.trans e6))) (fun q hq => (T3 q hq).ext (e5.trans e6)) (e6 _ _ hst5) (by rw [hpl]; exact hSt.ex e6)
end
end BA

namespace BA
open PySem PySem.Spec PyProof.Rows L2 Evl

/-! ### set(xs) of a list of numbers -/
abbrev eSet (w : World) : Obj := { cls := .type "set", dict := none, data := .set #[] 0 (.fresh 0 0 (!w.params.followText "set-order")) }
section
variable {P : Program} {w : World} {A : Around} {E : Value → Shared → Prop} {s : Shared}
theorem call_setL {l : Addr} {xs : Array Value} (ns : List Int) {Q : Value → Shared → Prop} (hh : A.handled = none) (hl : s.heap.IsList l xs) (hit : IntsAre xs.toList ns) (hb : ns.length + 1 < scanBound)
    (fin : ∀ (h' : Heap) (tk c : Nat), SetR w h' s.heap.objs.size (fun j => decide (j ∈ ns)) c → c ≤ ns.length → (∀ b o, s.heap.get? b = some o → h'.get? b = some o) → Q (.ref s.heap.objs.size) { s with heap := h', toks := tk }) :
    wpAny (model P w) A (call (.type "set") [.ref l]) Q E s := by
  have hisz : xs.size = ns.length := (Array.length_toList).symm.trans (IntsAre.length hit)
  obtain ⟨c, tl, hmro⟩ := PySem.F.called_set.mro
  have hm1 := PySem.F.called_set.made
  have hm2 := PySem.F.called_set.sub
  refine wpAny_call (codeAny_of_tree ?_)
  show wpAny _ _ (callAny (Value.type "set") _) _ _ s
  refine wpAny_pure ⟨Code.quiet_builtin _ (by decide +kernel), codeAny_builtin PySem.F.entry_type_call (s := s) ?_⟩
  rw [Around.under_plain (weight_type_call_type "set" [Value.ref l] []) (by rfl)]
  have h1 := PySem.F.called_set.notType
  have h2 := PySem.F.called_set.canCreate
  have h3 := PySem.F.typeCall_set_1 (Value.ref l)
  repeat (any_goals (first | assumption | wp_step))
  refine codeAny_mono (code_set_led1 (P := P) (Value.ref l) (E := E) (Q₁ := fun obj s₁ => obj = .ref s.heap.objs.size ∧ s₁ = { s with heap := s.heap.push (eSet w) }) ⟨rfl, rfl⟩) fun r s₁ hr => ?_
  cases r with
  | error e => exact hr
  | ok fl =>
    cases fl with
    | next => exact hr.elim
    | brk => exact hr.elim
    | cont => exact hr.elim
    | ret obj =>
      obtain ⟨rfl, rfl⟩ := hr
      have hS : (s.heap.push (eSet w)).get? s.heap.objs.size = some (eSet w) := Heap.get?_push_size _ rfl
      have hT : Shared.TypeIs { s with heap := s.heap.push (eSet w) } (.ref s.heap.objs.size) "set" := ⟨_, hS, rfl⟩
      have h4 := PySem.F.called_set.init.lookup
      have h5 := PySem.F.called_set.init.bind (Value.ref s.heap.objs.size)
      repeat (any_goals (first | assumption | wp_step))
      refine codeAny_mono (codeAny_call_builtin (R := wants (fun r s₂ => r = .none ∧ ∃ h' tk c, s₂ = { s with heap := h', toks := tk } ∧ SetR w h' s.heap.objs.size (fun j => decide (j ∈ ns)) c ∧ c ≤ ns.length ∧
          ∀ b o, s.heap.get? b = some o → h'.get? b = some o) E) PySem.F.called_set.init.plain PySem.F.entry_set_init (check_set_init_1 hT ?_)) fun r₂ s₂ hr₂ => ?_
      · obtain ⟨ol, hol, hcl, nl, hdl⟩ := hl
        obtain ⟨ocls, odict, odata, oslots⟩ := ol
        simp only at hcl hdl
        subst hcl hdl
        have hol' : (s.heap.push (eSet w)).get? l = some { cls := .type "list", dict := odict, data := .seq xs nl, slots := oslots } := Heap.get?_push_of_some _ hol
        have h6 := PySem.F.sub_list_set
        have h7 := PySem.F.sub_list_frozenset
        have h8 : (Value.type "list" == Value.type "dict") = false := by decide
        have hl1 : (s.heap.push (eSet w)).IsList l xs := ⟨_, hol', rfl, nl, rfl⟩
        unfold Builtin.«set.__init__» noKeywords Builtin.Frozenset.updateFrom
        generalize hPI : pyIter = PI
        wp_walk
        subst hPI
        refine wpAny_pyIter_list hl1 (wpAny_bind (wpAny_runValue ?_))
        have hlS : l < s.heap.objs.size := Heap.lt_size hol
        have h9 : A.in1.in1.in1.handled = none := by simp [hh]
        have hz1 : (s.heap.push (eSet w)).objs.size = s.heap.objs.size + 1 := Heap.size_push ..
        have hneI : l ≠ (s.heap.push (eSet w)).objs.size := fun z => Nat.lt_irrefl l (Nat.lt_of_lt_of_le hlS (by rw [z, hz1]; exact Nat.le_succ _))
        have hSf : s.heap.objs.size ∉ [(s.heap.push (eSet w)).objs.size, l] := by
          rw [hz1]
          intro z
          rcases List.mem_cons.mp z with z | z
          · exact absurd z (Nat.ne_of_lt (Nat.lt_succ_self _))
          · exact absurd (List.mem_singleton.mp z).symm (Nat.ne_of_lt hlS)
        have hval : ∀ (i : Nat) (v : Value), xs[i]? = some v → ∃ k t, ns[i]? = some k ∧ v = .int k t := fun i v hv => by
          have hi : i < ns.length := hisz ▸ (Array.getElem?_eq_some_iff.mp hv).1
          obtain ⟨t, e⟩ := PyProof.Rows.IntsAre.int_at hit i v ((Array.getElem?_toList).trans hv)
          refine ⟨ns[i], t, List.getElem?_eq_getElem hi, e.trans ?_⟩
          rw [List.getD_eq_getElem?_getD, List.getElem?_eq_getElem hi]
          rfl
        refine set_update_ints ((Walks.list h9 _ l hneI xs).toS) s.heap.objs.size hSf ns hisz hb hval (xs.size - 0) 0 _ (by omega) (Nat.zero_le _) ⟨⟨_, Heap.get?_push_size _ rfl, rfl, rfl⟩, hl1.push _⟩ ?hS0 ?hR
        case hS0 => exact ⟨0, Nat.le_refl 0, setR_new_at (Heap.get?_push_of_some _ hS)⟩
        case hR =>
          intro s' c' hm hc' hS'
          obtain ⟨h', g2, d', tk', os'⟩ := s'
          obtain rfl : g2 = s.gens := hm.gens
          obtain rfl : d' = s.drawn := hm.drawn
          obtain rfl : os' = s.os := hm.os
          show wpAny _ _ (pure _) _ _ _
          refine wpAny_pure ?_
          show wpAny _ _ (ret Value.none) _ _ _
          refine wpAny_pure ⟨rfl, h', tk', c', rfl, hS', by omega, fun b o e => ?_⟩
          have hb0 : b < s.heap.objs.size := Heap.lt_size e
          refine hm.heap b o (fun z => ?_) (Heap.get?_push_of_some _ (Heap.get?_push_of_some _ e))
          rcases List.mem_cons.mp z with z | z
          · exact Nat.ne_of_lt hb0 z
          · rw [List.mem_singleton.mp z, hz1] at hb0
            exact absurd hb0 (Nat.not_lt.mpr (Nat.le_succ _))
      · cases r₂ with
        | error e => exact hr₂
        | ok fl₂ =>
          cases fl₂ with
          | next => exact hr₂.elim
          | brk => exact hr₂.elim
          | cont => exact hr₂.elim
          | ret r =>
            obtain ⟨rfl, h', tk, c', rfl, hS', hc', hk'⟩ := hr₂
            repeat (any_goals (first | assumption | wp_step))
            exact fin _ _ _ hS' hc' hk'
end
theorem setR_few {w : World} {h : Heap} {a : Addr} {ns : List Int} {c : Nat} (R : SetR w h a (fun j => decide (j ∈ ns)) c) (hb : ∀ k ∈ ns, 0 ≤ k ∧ k < 16) : c ≤ 16 := by
  obtain ⟨o, es, ep, t, _, _, _, _, nd, hS, _, _, hc, _⟩ := R
  have hm : ∀ k ∈ es.toList.map keyOf, 0 ≤ k ∧ k < 16 := fun k hk => hb k (of_decide_eq_true ((hS k).mpr hk))
  have e : c = ((es.toList.map keyOf).map Int.toNat).length := by
    rw [List.length_map, List.length_map, Array.length_toList]
    exact hc.symm
  rw [e]
  refine nodup_lt_len (n := 16) ?_ fun x hx => ?_
  · rw [List.Nodup, List.pairwise_map]
    refine List.Pairwise.imp_of_mem ?_ nd
    intro p q hp hq hpq z
    have := hm p hp
    have := hm q hq
    exact hpq (by omega)
  · obtain ⟨k, hk, rfl⟩ := List.mem_map.mp hx
    have := hm k hk
    omega
def rSetOfL (K : PySem.W.Frag) (w : World) : List V → Hp → VK → Prop := fun vs H Q => ∃ (a : Addr) (ns : List Int), vs = [.ref a] ∧ SqL K H a (ns.map V.int) ∧ ns.length + 1 < scanBound ∧ (∀ k ∈ ns, 0 ≤ k ∧ k < 16) ∧
  ∀ p c, H p = none → c ≤ 16 → Q (.ref p) (upd H p (SetO w p (fun j => decide (j ∈ ns)) c))
theorem cr_setL {X : Cx} (hc : X.calm = true) : CallR X (.type "set") (rSetOfL X.K X.w) := by
  intro pins s σ H vs us Q I r h
  obtain ⟨a, ns, rfl, hs, hn, hb, q⟩ := h
  obtain rfl := Vals.ref1 r
  obtain ⟨its, rv, hl, hz⟩ := I.list hs
  refine call_setL ns (I.ok.hd hc) hl.isList (by simpa using rv.ints) hn fun h' tk c hS hc' hk => ?_
  exact ⟨.ref _, upd H s.heap.objs.size (SetO X.w s.heap.objs.size (fun j => decide (j ∈ ns)) c), I.laid (t' := tk) hk (Nat.le_refl _) (setO_new hS), rfl, q _ _ (I.hok.fresh (Nat.le_refl _)) (setR_few hS hb)⟩
/-- sorted(set(numbers)) -/
theorem el_sortSet {K : PySem.W.Frag} {w : World} {σ : L2.St} {H : Hp} {ta : TE} {a : Addr} {ns : List Int} {n : Nat} (ha : Ev ta σ H (.ref a)) (hs : SqL K H a (ns.map V.int)) (hl : ns.length + 1 < scanBound) (hn : n ≤ 16) (hb : ∀ k ∈ ns, 0 ≤ k ∧ k < (n : Int)) :
    EvL (tCB (rSortedSet w) (tCons (tCB (rSetOfL K w) (tCons ta tNil)) tNil)) σ H (vI ((List.range n).filter fun g => ns.contains ((g : Nat) : Int))) := fun H1 e Q q =>
  ha H1 e _ fun H2 e2 => ⟨a, ns, rfl, ex_l (e.trans e2) hs, hl, fun k hk => ⟨(hb k hk).1, by have := (hb k hk).2; omega⟩, fun p c hp hc => ⟨p, _, c, rfl, upd_same, by omega, fun ns' r hpw hmem hlen hr => by
    have e3 : Ex H1 (upd (upd H2 p (SetO w p (fun j => decide (j ∈ ns)) c)) r (.lst (ns'.map V.int))) := (e2.trans (Ex.new hp)).trans (Ex.new hr)
    refine q r _ (fresh_back (e2.trans (Ex.new hp)) hr) e3 ?_
    rw [upd_same]
    congr 1
    have hm : ∀ k, k ∈ ns' ↔ k ∈ ns := fun k => (hmem k).trans decide_eq_true_iff
    have hnn : ∀ k ∈ ns', 0 ≤ k ∧ k < (n : Int) := fun k hk => hb k ((hm k).mp hk)
    have e5 : ns' = (ns'.map Int.toNat).map fun m : Nat => (m : Int) := by
      rw [List.map_map]
      refine (List.map_id' ns').symm.trans (List.map_congr_left fun i hi => ?_)
      have := hnn i hi
      show i = ((i.toNat : Nat) : Int)
      omega
    have pw : (ns'.map Int.toNat).Pairwise (· < ·) := by
      rw [List.pairwise_map]
      refine List.Pairwise.imp_of_mem ?_ hpw
      intro p q hp hq hlt
      have := hnn p hp
      have := hnn q hq
      omega
    have e6 : ns'.map Int.toNat = (List.range n).filter fun g => ns.contains ((g : Nat) : Int) := by
      have pw2 : ((List.range n).filter fun g => ns.contains ((g : Nat) : Int)).Pairwise (· < ·) := List.pairwise_lt_range.filter _
      refine sorted_eq ((List.perm_ext_iff_of_nodup (pw.imp Nat.ne_of_lt) (pw2.imp Nat.ne_of_lt)).mpr fun x => ?_) (pw.imp Nat.le_of_lt) (pw2.imp Nat.le_of_lt)
      rw [List.mem_map, List.mem_filter, List.mem_range, List.contains_iff_mem]
      constructor
      · rintro ⟨k, hk, rfl⟩
        have h0 := hnn k hk
        have h1 : ((k.toNat : Nat) : Int) = k := Int.toNat_of_nonneg h0.1
        rw [h1]
        exact ⟨by omega, (hm k).mp hk⟩
      · rintro ⟨_, h2⟩
        exact ⟨(x : Int), (hm _).mpr h2, Int.toNat_natCast x⟩
    rw [e5, e6]
    unfold vI
    rw [List.map_map]
    rfl⟩⟩
end BA

namespace BA
open PySem PySem.Spec PyProof.Rows L2 Evl LamX
open VamvsBase (Bytes)
open Vamvsa (columnsOf width sizeOf_ shown)
open Vamvsd (parentNumber parentOf readOf oneCost buildCost lines Held)

/-! ### the desk -/
def dkF (tv sv : V) (wl : Addr) : List (Str × V) := [("table", tv), ("sizes", sv), ("wished", .ref wl)]
theorem dk_table (tv sv : V) (wl : Addr) : (dkF tv sv wl).lookup ("table" : Str) = some tv := lk_here
theorem dk_sizes (tv sv : V) (wl : Addr) : (dkF tv sv wl).lookup ("sizes" : Str) = some sv := (lk_past (by decide +kernel)).trans lk_here
theorem dk_wished (tv sv : V) (wl : Addr) : (dkF tv sv wl).lookup ("wished" : Str) = some (.ref wl) := (lk_past (by decide +kernel)).trans ((lk_past (by decide +kernel)).trans lk_here)
theorem dk_ptable (tv sv u : V) (wl : Addr) : putF "table" u (dkF tv sv wl) = dkF u sv wl := put_here
theorem dk_psizes (tv sv u : V) (wl : Addr) : putF "sizes" u (dkF tv sv wl) = dkF tv u wl := (put_past (by decide +kernel)).trans (congrArg _ put_here)
theorem dk_pwished (tv sv : V) (wl wl2 : Addr) : putF "wished" (.ref wl2) (dkF tv sv wl) = dkF tv sv wl2 := (put_past (by decide +kernel)).trans (congrArg _ ((put_past (by decide +kernel)).trans (congrArg _ put_here)))
/-- all but these places and the tables stays -/
def FrN (l : List Addr) (H H' : Hp) : Prop := ∀ b o, H b = some o → b ∉ l → (∀ ps, o ≠ .tbl ps) → H' b = some o
theorem FrN.ex {l : List Addr} {H H' : Hp} (e : Ex H H') : FrN l H H' := fun b o h _ _ => e b o h
theorem FrN.exN {l : List Addr} {H H' : Hp} (e : ExtN H H') : FrN l H H' := fun b o h _ n => e b o h n
theorem FrN.frl {l : List Addr} {H H' : Hp} (e : FrL l H H') : FrN l H H' := fun b o h n _ => e b o h n
theorem FrN.trans {l : List Addr} {H H1 H2 : Hp} (f : FrN l H H1) (g : FrN l H1 H2) : FrN l H H2 := fun b o h n t => g b o (f b o h n t) n t
theorem nt_tup {xs : List V} (ps : Array Value) : HO.tup xs ≠ .tbl ps := nofun
theorem nt_lst {xs : List V} (ps : Array Value) : HO.lst xs ≠ .tbl ps := nofun
theorem nt_ins {C dx : Addr} {fs : List (Str × V)} (ps : Array Value) : HO.ins C dx fs ≠ .tbl ps := nofun
theorem TabAt.extN {C : Addr} {H H' : Hp} {g : TG_} {t : Vamvsa.Table} (x : TabAt C H g t) (e : ExtN H H') : TabAt C H' g t := by
  obtain ⟨⟨dx, h1⟩, h2, h3, h4, h5, h6, h7⟩ := x
  exact ⟨⟨dx, e _ _ h1 nt_ins⟩, e _ _ h2 nt_lst, e _ _ h3 nt_lst, e _ _ h4 nt_lst, prs_imp (fun _ _ z => e _ _ z nt_tup) h5, prs_imp (fun _ _ ⟨v, z1, z2⟩ => ⟨v, e _ _ z1 nt_tup, e _ _ z2 nt_tup⟩) h6, prs_imp (fun _ _ z => e _ _ z nt_tup) h7⟩
structure DkAt (a : Ad) (H : Hp) (d : Addr) (g : TG_) (z wl : Addr) (h : Held) : Prop where
  dk : ∃ dx, H d = some (.ins a.c_Desk dx (dkF (.ref g.tb) (.ref z) wl))
  tb : TabAt a.c_Table H g h.t
  sz : SzAt a H z h.t
  wl : H wl = some (.lst (vI h.wish))
  ws : (Vamvsa.groupings h.t).filter (fun g => h.wish.contains g) = h.wish
theorem DkAt.ex {a : Ad} {H H' : Hp} {d z wl : Addr} {g : TG_} {h : Held} (x : DkAt a H d g z wl h) (e : Ex H H') : DkAt a H' d g z wl h := by
  obtain ⟨⟨dx, h1⟩, h2, h3, h4, h5⟩ := x
  exact ⟨⟨dx, e _ _ h1⟩, h2.ex e, h3.ex e, e _ _ h4, h5⟩
theorem DkAt.extN {a : Ad} {H H' : Hp} {d z wl : Addr} {g : TG_} {h : Held} (x : DkAt a H d g z wl h) (e : ExtN H H') : DkAt a H' d g z wl h := by
  obtain ⟨⟨dx, h1⟩, h2, h3, h4, h5⟩ := x
  exact ⟨⟨dx, e _ _ h1 (fun _ => nofun)⟩, h2.extN e, h3.extN e, e _ _ h4 (fun _ => nofun), h5⟩
def DkO (a : Ad) (H : Hp) (d : Addr) : Vamvsd.Obj → Prop
  | none => ∃ dx wl, H d = some (.ins a.c_Desk dx (dkF .non .non wl)) ∧ H wl = some (.lst [])
  | some h => ∃ g z wl, DkAt a H d g z wl h
theorem DkAt.bd {a : Ad} {H : Hp} {d z wl : Addr} {g : TG_} {h : Held} (x : DkAt a H d g z wl h) : (∀ s ∈ h.wish, s < 2 ^ width h.t) ∧ h.wish.length ≤ 16 ∧ h.wish.Nodup := by
  have h4 := x.sz.wf.c4
  refine ⟨fun s hs => ?_, ?_, ?_⟩
  · rw [← x.ws] at hs
    exact List.mem_range.mp (List.mem_filter.mp hs).1
  · rw [← x.ws]
    refine Nat.le_trans (List.length_filter_le _ _) ?_
    show (List.range _).length ≤ 16
    rw [List.length_range]
    exact pow_le16 h4
  · rw [← x.ws]
    exact List.nodup_range.filter _
theorem DkAt.bdS {a : Ad} {H : Hp} {d z wl : Addr} {g : TG_} {h : Held} (x : DkAt a H d g z wl h) : Bd h.t h.wish := ⟨x.bd.1, Nat.le_trans x.bd.2.1 (by decide)⟩
/-- a refusal goes out -/
def RefAt (CR : Addr) (H : Hp) (E : XK) (n : Int) : Prop := ∀ d H', Ex H H' → H' d = some (.xd [("number", .int n)]) → E (.ref CR) (some d) H'
theorem RefAt.go {CR : Addr} {H H' : Hp} {E : XK} {n : Int} (h : RefAt CR H E n) (e : Ex H H') : RefAt CR H' E n := fun d H2 e2 hd => h d H2 (e.trans e2) hd
def sp_Desk_init (a : Ad) : Sp := fun vs H Q _ => ∃ (x dx : Addr), vs = [.ref x] ∧ H x = some (.ins a.c_Desk dx []) ∧ ∀ H' wl, H wl = none → H' x = some (.ins a.c_Desk dx (dkF .non .non wl)) → H' wl = some (.lst []) → FrL [x] H H' → Q .non H'
def sp_refuse_if (a : Ad) : Sp := fun vs H Q E => ∃ (b : Bool) (n : Int), vs = [.bl b, .int n] ∧ (b = true → RefAt a.c_Refused H E n) ∧ (b = false → RetV .non H Q)
def isG (t : Vamvsa.Table) (n : Int) : Bool := decide (0 ≤ n) && decide (n < ((2 ^ width t : Nat) : Int))
def sp_is_grouping (a : Ad) : Sp := fun vs H Q _ => ∃ (d z wl : Addr) (g : TG_) (h : Held) (n : Int), vs = [.ref d, .int n] ∧ DkAt a H d g z wl h ∧ RetV (.bl (isG h.t n)) H Q
def keepI (t : Vamvsa.Table) (l : List Int) : List Nat := (Vamvsa.groupings t).filter fun g => l.contains ((g : Nat) : Int)
def sp_need_groupings (K : PySem.W.Frag) (a : Ad) : Sp := fun vs H Q E => ∃ (d z wl p : Addr) (g : TG_) (h : Held) (l : List Int), vs = [.ref d, .ref p] ∧ DkAt a H d g z wl h ∧ SqL K H p (l.map V.int) ∧ l.length ≤ 2000 ∧
  ((l.all (isG h.t)) = false → RefAt a.c_Refused H E (-2)) ∧ (l.all (isG h.t) = true → RetL (vI (keepI h.t l)) H Q)
section
variable {K : PySem.W.Frag} {σ : L2.St} {H H' : Hp} {ta tb te tl : TE} {x y z v : V} {D : Ends} {tu tw tz : TS} {tg : TG}
theorem ev_all {bs : List Bool} (h : EvL te σ H (bs.map V.bl)) : Ev (tCB (rAll K) (tCons te tNil)) σ H (.bl (bs.all id)) := fun H1 e Q q => h H1 e _ fun p H2 hp e2 h2 => ⟨p, bs, rfl, sq_of h2, q H2 e2⟩
theorem ev_any {bs : List Bool} (h : EvL te σ H (bs.map V.bl)) : Ev (tCB (rAny K) (tCons te tNil)) σ H (.bl (bs.any id)) := fun H1 e Q q => h H1 e _ fun p H2 hp e2 h2 => ⟨p, bs, rfl, sq_of h2, q H2 e2⟩
/-- a comprehension over a list of numbers, all of them -/
theorem el_lcI {p : Addr} {l : List Int} {j : Nat} {vs : List Nat} {f : Int → V} (h : Ev tl σ H (.ref p)) (hx : SqL K H p (l.map V.int)) (hz : l.length ≤ 40000) (hw : ∀ x, wipe ((wipe σ vs).set j (some x)) vs = wipe σ vs)
    (he : ∀ (n : Int) H1, Ex H H1 → n ∈ l → Ev te ((wipe σ vs).set j (some (.int n))) H1 (f n)) : EvL (tLc (iList K tl) (gName j) tYes te vs) σ H (l.map f) := by
  have eg : given (l.map V.int).length (fun _ => true) (fun i => f (l.getD i 0)) = l.map f := by
    rw [given_all, List.length_map]
    refine List.ext_getElem? fun i => ?_
    rw [List.getElem?_map, List.getElem?_map]
    by_cases hi : i < l.length
    · rw [List.getElem?_range hi, List.getElem?_eq_getElem hi]
      show some (f (l.getD i 0)) = some (f l[i])
      rw [List.getD_eq_getElem?_getD, List.getElem?_eq_getElem hi]
      rfl
    · rw [List.getElem?_eq_none (by simpa using hi), List.getElem?_eq_none (by omega)]
      rfl
  rw [← eg]
  refine el_lcL _ _ h hx (by rw [List.length_map]; exact hz) hw (fun i x H1 e1 hi => fun H2 e2 Q q => q H2 (Ex.refl _)) fun i x H1 e1 hi hf => ?_
  rw [List.getElem?_map] at hi
  cases hn : l[i]? with
  | none => rw [hn] at hi; cases hi
  | some n =>
    rw [hn] at hi
    cases hi
    rw [show l.getD i 0 = n by rw [List.getD_eq_getElem?_getD, hn]; rfl]
    exact he n H1 e1 (List.mem_of_getElem? hn)
end
section
variable {P : Program} {w : World} {K : PySem.W.Frag} {mg : Str → Option Value} {base : Heap} {a : Ad} {H H' : Hp} {σ : L2.St} {D : Ends} {tz : TS} {ta tb te : TE} {z p : Addr}
theorem ok_Desk_init (T : Txt K mg a) : Good P w K mg base 1 a.f_Desk_init ["self"] (sp_Desk_init a) := by
  obtain ⟨fd, F⟩ := T.F_Desk_init
  refine ⟨⟨fd, F.okX sc_Desk_init (fun vs H Q E h => ?_) (fun cdv A outer s H vs Q E hr h => ⟨_, (pss_cons (ps_fld (pv 0) pe_non rfl)
    (pss_cons (ps_fld (pv 0) pe_non rfl)
    (pss_one (ps_fld (pv 0) (pe_lst pa_nil) rfl)))), ?_⟩), F.binds fun _ _ _ _ _ _ us hl => match us, hl with | [_], _ => rfl⟩, T.k_Desk_init⟩
  · obtain ⟨x, dx, rfl, _⟩ := h
    rfl
  · obtain ⟨x, dx, rfl, hx, k⟩ := h
    refine q_fld ev_c (ev_var rfl) hx T.cl_Desk T.n_Desk_table (by decide) fun H1 e1 => ?_
    refine q_fld ev_c (ev_var rfl) upd_same T.cl_Desk T.n_Desk_sizes (by decide) fun H2 e2 => ?_
    have h2 : upd H2 x (.ins a.c_Desk dx (putF "sizes" .non (putF "table" .non []))) x = some (.ins a.c_Desk dx (putF "sizes" .non (putF "table" .non []))) := upd_same
    have f2 : FrL [x] H (upd H2 x (.ins a.c_Desk dx (putF "sizes" .non (putF "table" .non [])))) := ((((FrL.ex e1).trans (FrL.up (by simp))).trans (FrL.ex e2)).trans (FrL.up (by simp)))
    generalize upd H2 x (.ins a.c_Desk dx (putF "sizes" .non (putF "table" .non []))) = H3 at h2 f2
    refine s_fldL (xs := []) (el_lst ea_nil (by decide)) (ev_var rfl) h2 T.cl_Desk T.n_Desk_wished (by decide) fun q H4 hq e4 h4 => ?_
    have nq : q ≠ x := (ne_of_none h2 hq).symm
    exact k _ q (f2.none hq (by simpa using nq)) upd_same (by rw [upd_ne nq]; exact h4) ((f2.trans (FrL.ex e4)).trans (FrL.up (by simp)))
theorem ok_refuse_if (T : Txt K mg a) : Good P w K mg base 3 a.f_refuse_if ["is_so", "number"] (sp_refuse_if a) := by
  obtain ⟨fd, F⟩ := T.F_refuse_if
  refine ⟨⟨fd, F.okX sc_refuse_if (fun vs H Q E h => ?_) (fun cdv A outer s H vs Q E hr h => ⟨_, (pss_one (ps_if (pt_val (pv 0))
      (pss_one (ps_raiseRefused rfl T.x_Refused (hr.mono (by decide)) (takes_of rfl rfl rfl rfl) (pa_cons (pv 1) pa_nil)))
      pss_nil)), ?_⟩), F.binds fun _ _ _ _ _ _ us hl => match us, hl with | [_, _], _ => rfl⟩, T.k_refuse_if⟩
  · obtain ⟨b, n, rfl, _⟩ := h
    rfl
  · obtain ⟨b, n, rfl, k1, k2⟩ := h
    refine s_when (b := b) (et_B (ev_var rfl)) (fun hb H1 e1 => ?_) (fun hb H1 e1 => k2 hb H1 e1)
    exact ea_cons (ev_var rfl) ea_nil H1 (Ex.refl _) _ fun H2 e2 => ⟨_, rfl, fun dd hd => k1 hb dd _ ((e1.trans e2).trans (Ex.new hd)) upd_same⟩
theorem ok_is_grouping (T : Txt K mg a) : Good P w K mg base 1 a.f_is_grouping ["desk", "number"] (sp_is_grouping a) := by
  obtain ⟨fd, F⟩ := T.F_is_grouping
  refine ⟨⟨fd, F.okX sc_is_grouping (fun vs H Q E h => ?_) (fun cdv A outer s H vs Q E hr h => ⟨_, (pss_one (ps_ret (pe_chain op_le op_lt pe_int (pv 1) (pe_callB call_len_seq (by rfl) T.b_len (by decide +kernel) (pa_cons (pe_fld (pe_fld (pv 0) rfl) rfl) pa_nil))))), ?_⟩), F.binds fun _ _ _ _ _ _ us hl => match us, hl with | [_, _], _ => rfl⟩, T.k_is_grouping⟩
  · obtain ⟨d, z, wl, g, h, n, rfl, _⟩ := h
    rfl
  · obtain ⟨d, z, wl, g, h, n, rfl, DK, k⟩ := h
    obtain ⟨dx, hd⟩ := DK.dk
    obtain ⟨⟨dz, lz, k1, k2⟩, wf⟩ := DK.sz
    refine s_ret (v := .bl (isG h.t n)) (ev_chain ev_c (ev_var rfl) rv_I0 (fun _ => ev_is (ev_len (ev_fld (ev_fld (ev_var rfl) hd T.cl_Desk T.n_Desk_sizes (dk_sizes _ _ _)) k1 T.cl_Sizes T.n_Sizes_lines (szF_lines _ _)) (sq_of k2)) (by rw [vI_len, sizesL_len])) fun _ => rv_I0) k
theorem ok_need_groupings (T : Txt K mg a) : Good P w K mg base 4 a.f_need_groupings ["desk", "numbers"] (sp_need_groupings K a) := by
  obtain ⟨fd, F⟩ := T.F_need_groupings
  refine ⟨⟨fd, F.okX sc_need_groupings (fun vs H Q E h => ?_) (fun cdv A outer s H vs Q E hr h => ⟨_, (pss_cons (ps_expr (pe_g (ok_refuse_if T) (hr.mono (by decide)) rfl T.m_refuse_if (E := fun _ => E) (pxt (takes_of rfl rfl rfl rfl)) (pa_cons (pe_not (pe_callB (cr_all rfl) (by rfl) T.b_all (by decide +kernel) (pa_cons (pe_lc (own := [("number", 2)]) rfl sc_need_groupings.nd (pi_list (pv 1)) (blkOk_by (own := [("number", 2)]) (N := ["desk", "numbers", "number"]) (sc := defScope s_need_groupings) (by decide +kernel)) (fun _ _ _ _ _ => (pg_name (i := 2) sc_need_groupings.nd rfl (Or.inl rfl))) (fun _ _ _ _ _ => pts_nil) (fun _ _ _ _ _ => (pe_g (ok_is_grouping T) (hr.mono (by decide)) rfl T.m_is_grouping (E := fun _ => E0) px0 (pa_cons (pv 0) (pa_cons (pv 2) pa_nil))))) pa_nil))) (pa_cons (pe_gi rfl T.m_NO_GROUPING) pa_nil))))
    (pss_one (ps_ret (pe_callB (cr_sortedSet rfl) (by rfl) T.b_sorted (by decide +kernel) (pa_cons (pe_callTy (cr_setL rfl) (by rfl) T.b_set (by decide +kernel) (pa_cons (pv 1) pa_nil)) pa_nil))))), ?_⟩), F.binds fun _ _ _ _ _ _ us hl => match us, hl with | [_, _], _ => rfl⟩, T.k_need_groupings⟩
  · obtain ⟨d, z, wl, p, g, h, l, rfl, _⟩ := h
    rfl
  · obtain ⟨d, z, wl, p, g, h, l, rfl, DK, hp, hl, k1, k2⟩ := h
    have wf := DK.sz.wf
    have ea : (l.map (isG h.t)).all id = l.all (isG h.t) := by
      rw [List.all_map]
      rfl
    refine q_dropR (ea_cons (ev_notV (ev_is (ev_all (bs := l.map (isG h.t)) (by
      rw [List.map_map]
      exact el_lcI (ev_var rfl) hp (by omega) (fun _ => rfl) fun n H1 e1 hn => ev_g (ea_cons (ev_var rfl) (ea_cons (ev_var rfl) ea_nil)) fun H2 e2 Q q E => ⟨d, z, wl, g, h, n, rfl, DK.ex (e1.trans e2), q⟩)) (by rw [ea]))) (ea_cons ev_c ea_nil) H (Ex.refl _) _ fun H1 e1 => ⟨!l.all (isG h.t), -2, rfl, fun hb => (k1 (by simpa using hb)).go e1, fun hb H2 e2 => ?_⟩)
    have hall : l.all (isG h.t) = true := by simpa using hb
    have h4 := pow_le16 wf.c4
    refine s_retL (el_sortSet (n := 2 ^ width h.t) (ev_var rfl) (ex_l (e1.trans e2) hp) (by show l.length + 1 < 4096; omega) h4 fun k hk => ?_) fun r H3 hr e3 h3 => k2 hall r H3 (fresh_back (e1.trans e2) hr) ((e1.trans e2).trans e3) h3
    have := List.all_eq_true.mp hall k hk
    unfold isG at this
    rw [Bool.and_eq_true, decide_eq_true_iff, decide_eq_true_iff] at this
    exact this
end
end BA

namespace BA
open PySem PySem.Spec PyProof.Rows L2 Evl LamX
open VamvsBase (Bytes)
open Vamvsa (columnsOf width sizeOf_ shown)
open Vamvsd (parentNumber parentOf readOf oneCost buildCost lines Held planAnswer planOf run bestHelpers)
open VamvsdNeutral (encode)

/-! ### the deeds -/
def TT_ (tp : Addr) (H : Hp) : Prop := Tabs [(tp, lamQ)] H
theorem TT_.ex {tp : Addr} {H H' : Hp} (h : TT_ tp H) (e : Ex H H') : TT_ tp H' := fun q hq => (h q hq).ext e
def sp_deed (K : PySem.W.Frag) (a : Ad) (tp : Addr) (pre : List Int → Prop) (c : List Int → Vamvsd.Call) : Sp := fun vs H Q E => ∃ (d p z wl : Addr) (g : TG_) (h : Held) (l : List Int), vs = [.ref d, .ref p] ∧ DkAt a H d g z wl h ∧ SqL K H p (l.map V.int) ∧ TT_ tp H ∧ pre l ∧
  (∀ r H', FrN [d] H H' → TT_ tp H' → DkO a H' d (Vamvsd.step (some h) (c l)).1 → H' r = some (.lst ((encode (Vamvsd.step (some h) (c l)).2).map V.int)) → Q (.ref r) H') ∧
  (∀ n, Vamvsd.step (some h) (c l) = (some h, VamvsBase.one n) → RefAt a.c_Refused H E n)
def sp_told_with (a : Ad) (tp : Addr) : Sp := fun vs H Q _ => ∃ (d q z wl : Addr) (g : TG_) (h : Held) (hs : List Nat), vs = [.ref d, .ref q] ∧ DkAt a H d g z wl h ∧ H q = some (.lst (vI hs)) ∧ (h.wish ++ hs).Nodup ∧ (∀ g ∈ hs, g < 2 ^ width h.t) ∧ TT_ tp H ∧
  ∀ r H', ExtN H H' → TT_ tp H' → H' r = some (.lst ((encode (planAnswer h hs)).map V.int)) → Q (.ref r) H'
theorem step_row (st : Stp) : Vamvsd.stepRow st = [((stepPair st).1 : Int), (stepPair st).2] := by cases st <;> rfl
theorem nats_vI (l : List Nat) : (Vamvsd.nats l).map V.int = vI l := by
  unfold Vamvsd.nats vI
  rw [List.map_map]
  rfl
section
variable {K : PySem.W.Frag} {σ : L2.St} {H H' : Hp} {ta tb te tl : TE} {x y z v : V} {D : Ends} {tu tw tz : TS} {tg : TG}
theorem ev_newFld {C : Addr} {t : TA} {vs : List V} {sp : Sp} {f : Str} (h : EvA t σ H vs) (hs : ∀ H1, Ex H H1 → ∀ x dx, H1 x = some (.ins C dx []) → ∀ (Q : VK) (E : XK), (∀ H2 fs dx', H2 x = some (.ins C dx' fs) → fs.lookup f = some v → FrL [x] H1 H2 → Q .non H2) → sp (.ref x :: vs) H1 Q E)
    (c : Cls K C) (n : NoAttr K C f) : Ev (tFld K (tGC C sp t) f) σ H v := fun H3 e3 Q qq => h H3 e3 _ fun H4 e4 x dxx hx hdx ne => by
  have eU : Ex H4 (upd (upd H4 dxx (.own x)) x (.ins C dxx [])) := Ex.mut (Ex.new hdx) hx
  exact hs _ ((e3.trans e4).trans eU) x dxx upd_same _ _ fun H5 fs dx5 h5 hl f5 => ⟨rfl, x, C, dx5, fs, v, rfl, h5, c, n, hl, qq H5 (e4.trans (FrL.new (l := [x]) ((FrL.ex eU).trans f5) fun b hb => by rw [List.mem_singleton.mp hb]; exact hx))⟩
end
section
variable {P : Program} {w : World} {K : PySem.W.Frag} {mg : Str → Option Value} {base : Heap} {a : Ad} {H H' : Hp} {σ : L2.St} {D : Ends} {tz : TS} {ta tb te : TE} {z p c tp : Addr}
theorem ok_told_with (T : Txt K mg a) (FC : ∃ fd, FunC K "plan_with" "plan_with" s_plan_with a.f_plan_with fd c) (TB : TabB base mg c tp) : Good P w K mg base 6 a.f_told_with ["desk", "helpers"] (sp_told_with a tp) := by
  obtain ⟨fd, F⟩ := T.F_told_with
  refine ⟨⟨fd, F.okX sc_told_with (fun vs H Q E h => ?_) (fun cdv A outer s H vs Q E hr h => ⟨_, (pss_cons (ps_set (i := 2) sc_told_with.nd rfl (Or.inl rfl) (pe_g (ok_plan_with T FC TB) (hr.mono (by decide)) rfl T.m_plan_with (E := fun _ => E0) px0 (pa_cons (pe_fld (pv 0) rfl) (pa_cons (pe_fld (pv 0) rfl) (pa_cons (pv 1) pa_nil)))))
    (pss_cons (ps_set (i := 3) sc_told_with.nd rfl (Or.inl rfl) (pe_lst (pa_cons (pe_gm (ok_Sizes_cost_together T) (pe_fld (pv 0) rfl) T.cl_Sizes T.me_Sizes_cost_together (hr.mono (by decide)) (E := fun _ => E0) px0 (pa_cons (pe_op op_cat (pe_fld (pv 0) rfl) (pv 1)) pa_nil)) (pa_cons (pe_fld (pe_gc (ok_Played_init T) T.mk_Played (hr.mono (by decide)) rfl T.m_Played (pa_cons (pe_fld (pv 0) rfl) (pa_cons (pv 2) pa_nil))) rfl) pa_nil))))
    (pss_cons (ps_expr (pe_bm PySem.F.plainAttrs_list PySem.F.slot_list_extend PySem.F.type_list_extend mt_extend (pv 3) (pa_cons (pe_op op_cat (pe_op op_cat (pe_lst (pa_cons (pe_callB call_len_seq (by rfl) T.b_len (by decide +kernel) (pa_cons (pv 1) pa_nil)) pa_nil)) (pv 1)) (pe_lst (pa_cons (pe_callB call_len_seq (by rfl) T.b_len (by decide +kernel) (pa_cons (pv 2) pa_nil)) pa_nil))) pa_nil)))
    (pss_cons (ps_for (passes_of rfl) rfl (pi_list (pv 2)) (pg_name (i := 4) sc_told_with.nd rfl (Or.inl rfl))
      (pss_one (ps_expr (pe_bm PySem.F.plainAttrs_list PySem.F.slot_list_extend PySem.F.type_list_extend mt_extend (pv 3) (pa_cons (pe_callTy call_list_of (by rfl) T.b_list (by decide +kernel) (pa_cons (pv 4) pa_nil)) pa_nil)))))
    (pss_one (ps_ret (pv 3))))))), ?_⟩), F.binds fun _ _ _ _ _ _ us hl => match us, hl with | [_, _], _ => rfl⟩, T.k_told_with⟩
  · obtain ⟨d, q, z, wl, g, h, hs, rfl, _⟩ := h
    rfl
  · obtain ⟨d, q, z, wl, g, h, hs, rfl, DK, hq, nd, hsb, hT, k⟩ := h
    obtain ⟨dx, hd⟩ := DK.dk
    have wf := DK.sz.wf
    have h16 := pow_le16 wf.c4
    have hall : ∀ g ∈ h.wish ++ hs, g < 2 ^ width h.t := fun g hg => (List.mem_append.mp hg).elim (DK.bd.1 g) (hsb g)
    have hWl : (h.wish ++ hs).length ≤ 16 := Nat.le_trans (nodup_lt_len nd hall) h16
    have hWl2 := hWl
    rw [List.length_append] at hWl2
    have hperm : (Vamvsd.inRank h.t (h.wish ++ hs)).Perm (h.wish ++ hs) := by
      rw [← order_is wf.c4 nd hall]
      exact List.mergeSort_perm _ _
    obtain ⟨pc, pok, pl⟩ := plan_cost wf.c4 nd hall hperm
    have pl' : (planOf h.t h.wish hs).length ≤ 272 := by omega
    -- steps = plan_with(..)
    refine q_asgR (ea_cons (ev_fld (ev_var rfl) hd T.cl_Desk T.n_Desk_sizes (dk_sizes _ _ _)) (ea_cons (ev_fld (ev_var rfl) hd T.cl_Desk T.n_Desk_wished (dk_wished _ _ _)) (ea_cons (ev_var rfl) ea_nil)) H (Ex.refl _) _ fun H1 e1 => ⟨z, wl, q, h.t, h.wish, hs, rfl, DK.sz.ex e1, e1 _ _ DK.wl, e1 _ _ hq, nd, hall, hT.ex e1, fun st qs H2 eN2 T2 hst hSt => ?_⟩)
    have eN := (ExtN.of e1).trans eN2
    have DK2 := DK.extN eN
    have hq2 := eN _ _ hq nt_lst
    obtain ⟨dx2, hd2⟩ := DK2.dk
    obtain ⟨⟨dz, lz, k1, k2⟩, _⟩ := id DK2.sz
    have hfS : Ev (tFld K (tVar 0) "sizes") [some (.ref d), some (.ref q), some (.ref st), none, none] H2 (.ref z) := ev_fld (ev_var rfl) hd2 T.cl_Desk T.n_Desk_sizes (dk_sizes _ _ _)
    have hfW : Ev (tFld K (tVar 0) "wished") [some (.ref d), some (.ref q), some (.ref st), none, none] H2 (.ref wl) := ev_fld (ev_var rfl) hd2 T.cl_Desk T.n_Desk_wished (dk_wished _ _ _)
    -- found = [..]
    refine q_asgL (xs := [.int (buildCost h.t (h.wish ++ hs) : Nat), .int ((run h.t (planOf h.t h.wish hs)).1.peak : Nat)]) ?_ fun fo H3 nfo e3 hfo => ?_
    · refine el_lst (ea_cons ?_ (ea_cons ?_ ea_nil)) (by show (2 : Nat) ≤ 100000; decide)
      · have catL := el_catVV (xs := vI h.wish) (ys := vI hs) hfW DK2.wl (ev_var (i := 1) rfl) hq2 (by rw [vI_len, vI_len]; omega)
        have e9 : vI (h.wish ++ hs) = vI h.wish ++ vI hs := List.map_append
        rw [← e9] at catL
        exact fun H3 e3 Q qq => hfS H3 e3 _ fun H4 e4 => ⟨z, dz, _, rfl, (e3.trans e4) _ _ k1, szF_none _ _ (by decide +kernel) (by decide +kernel), catL H4 (e3.trans e4) _ fun r H5 hr e5 h5 => ⟨z, r, h.t, h.wish ++ hs, rfl, DK2.sz.ex ((e3.trans e4).trans e5), sq_of h5, ⟨hall, by omega⟩, fun H6 e6 => qq H6 ((e4.trans e5).trans e6)⟩⟩
      · refine ev_newFld (ea_cons hfS (ea_cons (ev_var rfl) ea_nil)) (fun H3 e3 x dxx hx Q E kk => ?_) T.cl_Played T.n_Played_most
        refine ⟨x, dxx, z, st, qs, h.t, planOf h.t h.wish hs, rfl, hx, DK2.sz.ex e3, sq_of (e3 _ _ hst), hSt.ex e3, pok, fun H5 l hl PL f5 => ?_⟩
        obtain ⟨dx5, h5⟩ := PL.at_
        exact kk H5 _ dx5 h5 (plF_most _ _ _ _ _) f5
    have hstl : (refs qs).length = (planOf h.t h.wish hs).length := by rw [refs_len]; exact prs_len hSt
    refine q_ext (ys := ([.int (hs.length : Nat)] ++ vI hs) ++ [.int ((planOf h.t h.wish hs).length : Nat)]) hfo (ev_var rfl) (el_cat (el_catLV (el_lst (ea_cons (ev_is (ev_len (ev_var rfl) (sq_of (e3 _ _ hq2))) (by rw [vI_len])) ea_nil) (by show (1 : Nat) ≤ 100000; decide)) (ev_var rfl) (e3 _ _ hq2) (by rw [vI_len]; show 1 + _ ≤ 100000; omega)) (el_lst (ea_cons (ev_is (ev_len (ev_var rfl) (sq_of (e3 _ _ hst))) (by rw [hstl])) ea_nil) (by show (1 : Nat) ≤ 100000; decide)) (by rw [List.length_append, vI_len]; show 1 + _ + 1 ≤ 100000; omega)) (by rw [List.length_append, List.length_append, vI_len]; show 2 + (1 + _ + 1) ≤ 100000; omega) fun H4 e4 => ?_
    have e34 : Ex H2 (upd H4 fo (.lst ([.int (buildCost h.t (h.wish ++ hs) : Nat), .int ((run h.t (planOf h.t h.wish hs)).1.peak : Nat)] ++ (([.int (hs.length : Nat)] ++ vI hs) ++ [.int ((planOf h.t h.wish hs).length : Nat)])))) := Ex.mut (e3.trans e4) nfo
    refine q_forLn (xs := refs qs) (ev_var rfl) (sq_of (e34 _ _ hst)) (fun i σ' H' => ∃ x4, σ' = [some (.ref d), some (.ref q), some (.ref st), some (.ref fo), x4] ∧ Ex H2 H' ∧ i ≤ (planOf h.t h.wish hs).length ∧ H' fo = some (.lst (([.int (buildCost h.t (h.wish ++ hs) : Nat), .int ((run h.t (planOf h.t h.wish hs)).1.peak : Nat)] ++ (([.int (hs.length : Nat)] ++ vI hs) ++ [.int ((planOf h.t h.wish hs).length : Nat)])) ++ (((planOf h.t h.wish hs).take i).flatMap Vamvsd.stepRow).map V.int)))
      (fun H5 e5 => ⟨none, rfl, e34.trans e5, Nat.zero_le _, by rw [List.take_zero]; exact (e5 _ _ upd_same).trans (congrArg (fun x => some (HO.lst x)) (List.append_nil _).symm)⟩) (fun i σ' H' _ ⟨_, _, e, _, _⟩ => sq_of (e _ _ hst)) ?_ ?_
    · rintro i x σ' H' hi ⟨x4, rfl, e5, hil, hfo5⟩
      unfold refs at hi
      rw [List.getElem?_map] at hi
      cases hqi : qs[i]? with
      | none => rw [hqi] at hi; cases hi
      | some r =>
        rw [hqi] at hi
        cases hi
        obtain ⟨stp, hstp, hr⟩ := prs_getL hSt hqi
        have hlt := (List.getElem?_eq_some_iff.mp hstp).1
        have hfl : ∀ L : List Stp, (L.flatMap Vamvsd.stepRow).length = 2 * L.length := fun L => by
          induction L with
          | nil => rfl
          | cons a L ih =>
            simp only [List.flatMap_cons, List.length_append, ih, step_row, List.length_cons, List.length_nil]
            omega
        refine s_ext (ys := [.int ((stepPair stp).1 : Nat), .int (stepPair stp).2]) hfo5 (ev_var rfl) (el_listT (ev_var rfl) (st_of (e5 _ _ hr))) ?_ fun H6 e6 => ⟨_, rfl, Ex.mut (e5.trans e6) nfo, hlt, ?_⟩
        · simp only [List.length_append, List.length_map, vI_len, hfl, List.length_take, List.length_cons, List.length_nil]
          omega
        · rw [upd_same, List.take_succ, hstp, show (some stp).toList = [stp] from rfl, flat_snoc, List.map_append, step_row, List.append_assoc]
          rfl
    · rintro σ' H' ⟨x4, rfl, e5, _, hfo5⟩
      rw [hstl, List.take_length] at hfo5
      refine s_ret (ev_var rfl) fun H6 e6 => k fo H6 (eN.trans (ExtN.of (e5.trans e6))) (fun q hq => (T2 q hq).ext (e5.trans e6)) ((e6 _ _ hfo5).trans (congrArg (fun x => some (HO.lst x)) ?_))
      unfold encode planAnswer
      show _ = V.int (((run h.t (planOf h.t h.wish hs)).1.cost : Nat) : Int) :: V.int (((run h.t (planOf h.t h.wish hs)).1.peak : Nat) : Int) :: (Vamvsd.listRow hs ++ (((planOf h.t h.wish hs).length : Int) :: (planOf h.t h.wish hs).flatMap Vamvsd.stepRow)).map V.int
      rw [pc, List.map_append, Vamvsd.listRow, List.map_cons, List.map_cons, nats_vI]
      simp only [List.append_assoc, List.cons_append, List.nil_append]
end
end BA

namespace BA
open PySem PySem.Spec PyProof.Rows L2 Evl LamX
open VamvsBase (Bytes)
open Vamvsa (columnsOf width sizeOf_ shown)
open Vamvsd (parentNumber parentOf readOf oneCost buildCost lines Held planAnswer planOf run bestHelpers)
open VamvsdNeutral (encode)

theorem bestN_in (t : Vamvsa.Table) (W : List Nat) : ∀ (L : List (List Nat)) (s0 : List Nat), bestN t W L s0 = s0 ∨ bestN t W L s0 ∈ L
  | [], s0 => .inl rfl
  | u :: L, s0 => by
    unfold bestN
    rw [List.foldl_cons]
    by_cases hc : Vamvsd.helpersLess (priceN t W u) (priceN t W s0) = true
    · rw [if_pos hc]
      rcases bestN_in t W L u with h | h
      · exact .inr (by rw [show List.foldl _ _ _ = bestN t W L u from rfl, h]; exact List.mem_cons_self)
      · exact .inr (List.mem_cons_of_mem _ h)
    · rw [if_neg hc]
      rcases bestN_in t W L s0 with h | h
      · exact .inl h
      · exact .inr (List.mem_cons_of_mem _ h)
theorem best_ok {t : Vamvsa.Table} {W : List Nat} (hw : (Vamvsa.groupings t).filter (fun g => W.contains g) = W) : (W ++ (bestHelpers t W).hs).Nodup ∧ ∀ g ∈ (bestHelpers t W).hs, g < 2 ^ width t := by
  have hnd : W.Nodup := by
    rw [← hw]
    exact List.nodup_range.filter _
  have h : ∀ s, s = [] ∨ s ∈ setsUp (othersOf t W) 3 → (W ++ s).Nodup ∧ ∀ g ∈ s, g < 2 ^ width t := fun s hs => by
    rcases hs with rfl | hs
    · exact ⟨by rw [List.append_nil]; exact hnd, fun g hg => nomatch hg⟩
    · obtain ⟨_, h2, h3⟩ := (setsUp_mem _ _ _).mp hs
      refine ⟨?_, fun g hg => others_lt (h3 g hg)⟩
      rw [List.nodup_append]
      refine ⟨hnd, List.Pairwise.imp Nat.ne_of_lt h2, fun x hx y hy e => ?_⟩
      have := (List.mem_filter.mp (h3 y hy)).2
      rw [← e] at this
      rw [List.contains_iff_mem.mpr hx] at this
      cases this
  rw [← best_eq hw]
  exact h _ (bestN_in t W _ [])
theorem idx_none {t : Vamvsa.Table} {n : Int} : (VamvsBase.index n (2 ^ width t)).isNone = !isG t n := by
  unfold VamvsBase.index isG
  by_cases hc : 0 ≤ n ∧ n < ((2 ^ width t : Nat) : Int)
  · rw [if_pos hc, decide_eq_true hc.1, decide_eq_true hc.2]
    rfl
  · rw [if_neg hc]
    by_cases h0 : 0 ≤ n
    · rw [decide_eq_true h0, decide_eq_false fun z => hc ⟨h0, z⟩]
      rfl
    · rw [decide_eq_false h0]
      rfl
theorem kept_eq (t : Vamvsa.Table) (l : List Int) : Vamvsd.keptOf t l = if l.all (isG t) = true then some (keepI t l) else none := by
  unfold Vamvsd.keptOf
  have e : (l.any fun z => (VamvsBase.index z (2 ^ width t)).isNone) = !l.all (isG t) := by
    rw [List.not_all_eq_any_not]
    refine congrArg (fun f => l.any f) (funext fun z => idx_none)
  have e' : (l.any fun z => (VamvsBase.index z (2 ^ Vamvsa.width t)).isNone) = !l.all (isG t) := e
  rw [e']
  cases l.all (isG t)
  · rfl
  · rfl
theorem keep_ws (t : Vamvsa.Table) (l : List Int) : (Vamvsa.groupings t).filter (fun g => (keepI t l).contains g) = keepI t l := by
  refine List.filter_congr fun g hg => ?_
  rw [Bool.eq_iff_iff, List.contains_iff_mem]
  unfold keepI
  rw [List.mem_filter]
  exact ⟨fun h => h.2, fun h => ⟨hg, h⟩⟩
theorem DkAt.frl {a : Ad} {H H' : Hp} {d z wl : Addr} {g : TG_} {h : Held} (x : DkAt a H d g z wl h) (f : FrL [d] H H') : TabAt a.c_Table H' g h.t ∧ SzAt a H' z h.t := by
  obtain ⟨dx, hd⟩ := x.dk
  obtain ⟨⟨d1, h1⟩, h2, h3, h4, h5, h6, h7⟩ := x.tb
  obtain ⟨⟨d2, l2, s1, s2⟩, wf⟩ := x.sz
  have n1 : g.tb ≠ d := ne_of h1 hd (by
    intro w
    injection w with _ _ w
    injection w with w _
    injection w with w _
    exact absurd w (by decide +kernel))
  have n2 : z ≠ d := ne_of s1 hd (by
    intro w
    injection w with _ _ w
    injection w with w _
    injection w with w _
    exact absurd w (by decide +kernel))
  have nl : ∀ {b : Addr} {xs : List V}, H b = some (.lst xs) → b ≠ d := fun hb => ne_of hb hd nofun
  have nt : ∀ {b : Addr} {xs : List V}, H b = some (.tup xs) → b ≠ d := fun hb => ne_of hb hd nofun
  exact ⟨⟨⟨d1, f.at1 h1 n1⟩, f.at1 h2 (nl h2), f.at1 h3 (nl h3), f.at1 h4 (nl h4), prs_imp (fun _ _ q => f.at1 q (nt q)) h5, prs_imp (fun _ _ ⟨v, q1, q2⟩ => ⟨v, f.at1 q1 (nt q1), f.at1 q2 (nt q2)⟩) h6, prs_imp (fun _ _ q => f.at1 q (nt q)) h7⟩, ⟨d2, l2, f.at1 s1 n2, f.at1 s2 (nl s2)⟩, wf⟩
theorem q_fldG {K : PySem.W.Frag} {σ : L2.St} {H : Hp} {ta : TE} {sp : Sp} {E : L2.St → XK} {t : TA} {vs : List V} {f : Str} {tz : TS} {D : Ends} (ha : EvA t σ H vs)
    (h : ∀ H1, Ex H H1 → ∀ Q : VK, (∀ y H2, (ta σ H2 fun x H3 => ∃ p C dx fs, x = V.ref p ∧ H3 p = some (.ins C dx fs) ∧ Cls K C ∧ NoAttr K C f ∧ fs.length < 1000 ∧ tz D σ (upd H3 p (.ins C dx (putF f y fs)))) → Q y H2) → sp vs H1 Q (E σ)) : tSeq (sFld K ta (tG sp E t) f) tz D σ H :=
  ha H (Ex.refl _) _ fun H1 e1 => h H1 e1 _ fun y H2 q => q
theorem s_retGG {σ : L2.St} {H : Hp} {D : Ends} {sp sp2 : Sp} {E E2 : L2.St → XK} {t2 : TA} {i : Nat} {vs : List V} {v : V} (h0 : σ[i]? = some (some v)) (ha : EvA t2 σ H vs) (h : ∀ H1, Ex H H1 → sp2 vs H1 (fun x H2 => sp [v, x] H2 D.rt (E σ)) (E2 σ)) :
    tRet (tG sp E (tCons (tVar i) (tCons (tG sp2 E2 t2) tNil))) D σ H := ⟨v, h0, ha H (Ex.refl _) _ fun H1 e1 => h H1 e1⟩
section
variable {σ : L2.St} {H : Hp} {D : Ends} {sp : Sp} {E : L2.St → XK} {t : TA} {vs : List V} {tz : TS}
theorem s_retG (ha : EvA t σ H vs) (h : ∀ H1, Ex H H1 → sp vs H1 D.rt (E σ)) : tRet (tG sp E t) D σ H := ha H (Ex.refl _) _ fun H1 e1 => h H1 e1
theorem q_asgG {i : Nat} (ha : EvA t σ H vs) (h : ∀ H1, Ex H H1 → sp vs H1 (fun v H2 => tz D (σ.set i (some v)) H2) (E σ)) : tSeq (tAsg (tG sp E t) (gName i)) tz D σ H := ha H (Ex.refl _) _ fun H1 e1 => h H1 e1
theorem q_dropG (ha : EvA t σ H vs) (h : ∀ H1, Ex H H1 → sp vs H1 (fun _ H2 => tz D σ H2) (E σ)) : tSeq (tDrop (tG sp E t)) tz D σ H := ha H (Ex.refl _) _ fun H1 e1 => h H1 e1
end
theorem FrN.of {l : List Addr} {H H' : Hp} (e : ExtN H H') : FrN l H H' := FrN.exN e
section
variable {P : Program} {w : World} {K : PySem.W.Frag} {mg : Str → Option Value} {base : Heap} {a : Ad} {H H' : Hp} {σ : L2.St} {D : Ends} {tz : TS} {ta tb te : TE} {z p c tp : Addr}
theorem ok_best (T : Txt K mg a) (FC : ∃ fd, FunC K "plan_with" "plan_with" s_plan_with a.f_plan_with fd c) (TB : TabB base mg c tp) : Good P w K mg base 7 a.f_best ["desk", "given"] (sp_deed K a tp (fun _ => True) fun _ => .best) := by
  obtain ⟨fd, F⟩ := T.F_best
  refine ⟨⟨fd, F.okX sc_best (fun vs H Q E h => ?_) (fun cdv A outer s H vs Q E hr h => ⟨_, (pss_one (ps_ret (pe_g (ok_told_with T FC TB) (hr.mono (by decide)) rfl T.m_told_with (E := fun _ => E0) px0 (pa_cons (pv 0) (pa_cons (pe_g (ok_best_helpers T) (hr.mono (by decide)) rfl T.m_best_helpers (E := fun _ => E0) px0 (pa_cons (pe_fld (pv 0) rfl) (pa_cons (pe_fld (pv 0) rfl) pa_nil))) pa_nil))))), ?_⟩), F.binds fun _ _ _ _ _ _ us hl => match us, hl with | [_, _], _ => rfl⟩, T.k_best⟩
  · obtain ⟨d, p, z, wl, g, h, l, rfl, _⟩ := h
    rfl
  · obtain ⟨d, p, z, wl, g, h, l, rfl, DK, hp, hT, _, k1, k2⟩ := h
    obtain ⟨dx, hd⟩ := DK.dk
    obtain ⟨b1, b2⟩ := best_ok DK.ws
    refine s_retGG (v := .ref d) rfl (ea_cons (ev_fld (ev_var rfl) hd T.cl_Desk T.n_Desk_sizes (dk_sizes _ _ _)) (ea_cons (ev_fld (ev_var rfl) hd T.cl_Desk T.n_Desk_wished (dk_wished _ _ _)) ea_nil)) fun H2 e2 => ⟨z, wl, h.t, h.wish, rfl, DK.sz.ex e2, e2 _ _ DK.wl, DK.ws, fun q H3 e3 h3 => ?_⟩
    have e := e2.trans e3
    exact ⟨d, q, z, wl, g, h, _, rfl, DK.ex e, h3, b1, b2, hT.ex e, fun r H4 eN T4 h4 => k1 r H4 ((FrN.ex e).trans (FrN.exN eN)) T4 ⟨g, z, wl, (DK.ex e).extN eN⟩ h4⟩
theorem ok_shown (T : Txt K mg a) : Good P w K mg base 5 a.f_shown ["desk", "given"] (sp_deed K a tp (fun _ => True) fun _ => .shown) := by
  obtain ⟨fd, F⟩ := T.F_shown
  refine ⟨⟨fd, F.okX sc_shown (fun vs H Q E h => ?_) (fun cdv A outer s H vs Q E hr h => ⟨_, (pss_cons (ps_set (i := 2) sc_shown.nd rfl (Or.inl rfl) (pe_g (ok_one_form T) (hr.mono (by decide)) rfl T.m_one_form (E := fun _ => E0) px0 (pa_cons (pe_fld (pv 0) rfl) pa_nil)))
    (pss_one (ps_ret (pe_op op_cat (pe_lst (pa_cons (pe_callB call_len_seq (by rfl) T.b_len (by decide +kernel) (pa_cons (pv 2) pa_nil)) pa_nil)) (pv 2))))), ?_⟩), F.binds fun _ _ _ _ _ _ us hl => match us, hl with | [_, _], _ => rfl⟩, T.k_shown⟩
  · obtain ⟨d, p, z, wl, g, h, l, rfl, _⟩ := h
    rfl
  · obtain ⟨d, p, z, wl, g, h, l, rfl, DK, hp, hT, _, k1, k2⟩ := h
    obtain ⟨dx, hd⟩ := DK.dk
    refine q_asgR (ea_cons (ev_fld (ev_var rfl) hd T.cl_Desk T.n_Desk_table (dk_table _ _ _)) ea_nil H (Ex.refl _) _ fun H1 e1 => ⟨g, h.t, rfl, DK.tb.ex e1, DK.sz.wf, fun hl f H2 hf e2 h2 => ?_⟩)
    refine s_retL (el_catLV (ys := bv (shown h.t)) (el_lst (ea_cons (ev_len (ev_var rfl) (sq_of h2)) ea_nil) (by show (1 : Nat) ≤ 100000; decide)) (ev_var rfl) h2 (by rw [bv_len]; show 1 + _ ≤ 100000; omega)) fun r H3 hr e3 h3 => k1 r H3 (FrN.ex ((e1.trans e2).trans e3)) (hT.ex ((e1.trans e2).trans e3)) ⟨g, z, wl, DK.ex ((e1.trans e2).trans e3)⟩ (h3.trans (congrArg (fun x => some (HO.lst x)) ?_))
    rw [bv_len]
    show V.int _ :: bv (shown h.t) = V.int _ :: ((shown h.t).map fun c => (c.toNat : Int)).map V.int
    rw [List.map_map]
    rfl
theorem ok_wish (T : Txt K mg a) : Good P w K mg base 5 a.f_wish ["desk", "given"] (sp_deed K a tp (fun l => l.length ≤ 2000) .wish) := by
  obtain ⟨fd, F⟩ := T.F_wish
  refine ⟨⟨fd, F.okX sc_wish (fun vs H Q E h => ?_) (fun cdv A outer s H vs Q E hr h => ⟨_, (pss_cons (ps_fld (pv 0) (pe_g (ok_need_groupings T) (hr.mono (by decide)) rfl T.m_need_groupings (E := fun _ => E) (pxt (takes_of rfl rfl rfl rfl)) (pa_cons (pv 0) (pa_cons (pv 1) pa_nil))) rfl)
    (pss_one (ps_ret (pe_lst (pa_cons pe_int (pa_cons (pe_callB call_len_seq (by rfl) T.b_len (by decide +kernel) (pa_cons (pe_fld (pv 0) rfl) pa_nil)) (pa_cons (pe_gm (ok_Sizes_total T) (pe_fld (pv 0) rfl) T.cl_Sizes T.me_Sizes_total (hr.mono (by decide)) (E := fun _ => E0) px0 (pa_cons (pe_fld (pv 0) rfl) pa_nil)) pa_nil))))))), ?_⟩), F.binds fun _ _ _ _ _ _ us hl => match us, hl with | [_, _], _ => rfl⟩, T.k_wish⟩
  · obtain ⟨d, p, z, wl, g, h, l, rfl, _⟩ := h
    rfl
  · obtain ⟨d, p, z, wl, g, h, l, rfl, DK, hp, hT, hl, k1, k2⟩ := h
    obtain ⟨dx, hd⟩ := DK.dk
    have ek := kept_eq h.t l
    have estep : Vamvsd.step (some h) (.wish l) = (match Vamvsd.keptOf h.t l with
      | none => (some h, VamvsBase.one (-2))
      | some k => (some { h with wish := k }, ⟨1, Vamvsd.nats [k.length, lines h.t k]⟩)) := rfl
    refine q_fldG (ea_cons (ev_var rfl) (ea_cons (ev_var rfl) ea_nil)) fun H1 e1 Q' q' => ⟨d, z, wl, p, g, h, l, rfl, DK.ex e1, ex_l e1 hp, hl, fun hb => ?_, fun hb r H2 hr e2 h2 => q' _ _ ⟨.ref d, rfl, d, _, dx, _, rfl, (e1.trans e2) _ _ hd, T.cl_Desk, T.n_Desk_wished, (by show (3 : Nat) < 1000; decide), ?_⟩⟩
    · rw [if_neg (by rw [hb]; decide)] at ek
      rw [ek] at estep
      exact (k2 _ estep).go e1
    · rw [if_pos hb] at ek
      rw [ek] at estep
      rw [estep] at k1
      rw [dk_pwished]
      have e12 := e1.trans e2
      have f3 : FrL [d] H (upd H2 d (.ins a.c_Desk dx (dkF (.ref g.tb) (.ref z) r))) := (FrL.ex e12).trans (FrL.up (by simp))
      have hd3 : upd H2 d (.ins a.c_Desk dx (dkF (.ref g.tb) (.ref z) r)) d = some (.ins a.c_Desk dx (dkF (.ref g.tb) (.ref z) r)) := upd_same
      have hr3 : upd H2 d (.ins a.c_Desk dx (dkF (.ref g.tb) (.ref z) r)) r = some (.lst (vI (keepI h.t l))) := by
        rw [upd_ne (ne_of h2 (e12 _ _ hd) nofun)]
        exact h2
      have hT3 : TT_ tp (upd H2 d (.ins a.c_Desk dx (dkF (.ref g.tb) (.ref z) r))) := fun q hq => by
        obtain ⟨ps, t1, t2, t3⟩ := hT q hq
        refine ⟨ps, f3.at1 t1 (ne_of t1 hd nofun), t2, fun pos cv hcv => ?_⟩
        obtain ⟨c0, u1, u2⟩ := t3 pos cv hcv
        exact ⟨c0, u1, f3.at1 u2 (ne_of u2 hd (by unfold CodeO; nofun))⟩
      obtain ⟨TB3, SZ3⟩ := DK.frl f3
      generalize upd H2 d (.ins a.c_Desk dx (dkF (.ref g.tb) (.ref z) r)) = H3 at f3 hd3 hr3 hT3 TB3 SZ3
      have DK3 : DkAt a H3 d g z r ⟨h.t, keepI h.t l⟩ := ⟨⟨dx, hd3⟩, TB3, SZ3, hr3, keep_ws _ _⟩
      obtain ⟨⟨dz, lz, z1, z2⟩, wf⟩ := id SZ3
      have hw3 : Ev (tFld K (tVar 0) "wished") [some (.ref d), some (.ref p)] H3 (.ref r) := ev_fld (ev_var rfl) hd3 T.cl_Desk T.n_Desk_wished (dk_wished _ _ _)
      refine s_retL (xs := [.int 1, .int ((keepI h.t l).length : Nat), .int (lines h.t (keepI h.t l) : Nat)]) (el_lst (ea_cons ev_c (ea_cons (ev_is (ev_len hw3 (sq_of hr3)) (by rw [vI_len])) (ea_cons (ev_gm (ev_fld (ev_var rfl) hd3 T.cl_Desk T.n_Desk_sizes (dk_sizes _ _ _)) z1 (szF_none _ _ (by decide +kernel) (by decide +kernel)) (ea_cons hw3 ea_nil) fun H4 e4 Q q E => ⟨z, r, h.t, _, rfl, SZ3.ex e4, sq_of (e4 _ _ hr3), DK3.bdS, q⟩) ea_nil))) (by show (3 : Nat) ≤ 100000; decide)) fun s H4 hs e4 h4 => k1 s H4 ((FrN.frl f3).trans (FrN.ex e4)) (hT3.ex e4) ⟨g, z, r, DK3.ex e4⟩ h4
theorem ok_plain (T : Txt K mg a) : Good P w K mg base 5 a.f_plain ["desk", "given"] (sp_deed K a tp (fun _ => True) fun _ => .plain) := by
  obtain ⟨fd, F⟩ := T.F_plain
  refine ⟨⟨fd, F.okX sc_plain (fun vs H Q E h => ?_) (fun cdv A outer s H vs Q E hr h => ⟨_, (pss_cons (ps_set (i := 2) sc_plain.nd rfl (Or.inl rfl) (pe_lst (pa_cons (pe_gm (ok_Sizes_cost_together T) (pe_fld (pv 0) rfl) T.cl_Sizes T.me_Sizes_cost_together (hr.mono (by decide)) (E := fun _ => E0) px0 (pa_cons (pe_fld (pv 0) rfl) pa_nil)) (pa_cons (pe_callB call_len_seq (by rfl) T.b_len (by decide +kernel) (pa_cons (pe_fld (pv 0) rfl) pa_nil)) pa_nil))))
    (pss_cons (ps_for (passes_of rfl) rfl (pi_list (pe_fld (pv 0) rfl)) (pg_name (i := 3) sc_plain.nd rfl (Or.inl rfl))
      (pss_one (ps_expr (pe_bm PySem.F.plainAttrs_list PySem.F.slot_list_extend PySem.F.type_list_extend mt_extend (pv 2) (pa_cons (pe_lst (pa_cons (pv 3) (pa_cons (pe_gm (ok_Sizes_parent_in T) (pe_fld (pv 0) rfl) T.cl_Sizes T.me_Sizes_parent_in (hr.mono (by decide)) (E := fun _ => E0) px0 (pa_cons (pe_fld (pv 0) rfl) (pa_cons (pv 3) pa_nil))) pa_nil))) pa_nil)))))
    (pss_one (ps_ret (pv 2))))), ?_⟩), F.binds fun _ _ _ _ _ _ us hl => match us, hl with | [_, _], _ => rfl⟩, T.k_plain⟩
  · obtain ⟨d, p, z, wl, g, h, l, rfl, _⟩ := h
    rfl
  · obtain ⟨d, p, z, wl, g, h, l, rfl, DK, hp, hT, _, k1, k2⟩ := h
    obtain ⟨dx, hd⟩ := DK.dk
    obtain ⟨⟨dz, lz, z1, z2⟩, wf⟩ := id DK.sz
    obtain ⟨bw, bl, _⟩ := DK.bd
    refine q_asgL (xs := [.int (buildCost h.t h.wish : Nat), .int (h.wish.length : Nat)]) (el_lst (ea_cons (ev_gm (ev_fld (ev_var rfl) hd T.cl_Desk T.n_Desk_sizes (dk_sizes _ _ _)) z1 (szF_none _ _ (by decide +kernel) (by decide +kernel)) (ea_cons (ev_fld (ev_var rfl) hd T.cl_Desk T.n_Desk_wished (dk_wished _ _ _)) ea_nil) fun H1 e1 Q q E => ⟨z, wl, h.t, h.wish, rfl, DK.sz.ex e1, sq_of (e1 _ _ DK.wl), DK.bdS, q⟩) (ea_cons (ev_is (ev_len (ev_fld (ev_var rfl) hd T.cl_Desk T.n_Desk_wished (dk_wished _ _ _)) (sq_of DK.wl)) (by rw [vI_len])) ea_nil)) (by show (2 : Nat) ≤ 100000; decide)) fun fo H1 nfo e1 hfo => ?_
    refine q_forLn (xs := vI h.wish) (ev_fld (ev_var rfl) (e1 _ _ hd) T.cl_Desk T.n_Desk_wished (dk_wished _ _ _)) (sq_of (e1 _ _ DK.wl)) (fun i σ' H' => ∃ x3, σ' = [some (.ref d), some (.ref p), some (.ref fo), x3] ∧ Ex H H' ∧ H' fo = some (.lst ([.int (buildCost h.t h.wish : Nat), .int (h.wish.length : Nat)] ++ ((h.wish.take i).flatMap fun (g : Nat) => [(g : Int), parentNumber (parentOf h.t h.wish g)]).map V.int)))
      (fun H2 e2 => ⟨none, rfl, e1.trans e2, by rw [List.take_zero]; exact e2 _ _ hfo⟩) (fun i σ' H' _ ⟨_, _, e, _⟩ => sq_of (e _ _ DK.wl)) ?_ ?_
    · rintro i x σ' H' hi ⟨x3, rfl, e2, hfo2⟩
      obtain ⟨n, hn, hm, rfl⟩ := vI_mem hi
      have hfl : ∀ L : List Nat, (L.flatMap fun (g : Nat) => [(g : Int), parentNumber (parentOf h.t h.wish g)]).length = 2 * L.length := fun L => by
        induction L with
        | nil => rfl
        | cons a L ih =>
          simp only [List.flatMap_cons, List.length_append, ih, List.length_cons, List.length_nil]
          omega
      refine s_ext (ys := [.int (n : Nat), .int (parentNumber (parentOf h.t h.wish n))]) hfo2 (ev_var rfl) (el_lst (ea_cons (ev_var rfl) (ea_cons (ev_gm (ev_fld (ev_var rfl) (e2 _ _ hd) T.cl_Desk T.n_Desk_sizes (dk_sizes _ _ _)) (e2 _ _ z1) (szF_none _ _ (by decide +kernel) (by decide +kernel)) (ea_cons (ev_fld (ev_var rfl) (e2 _ _ hd) T.cl_Desk T.n_Desk_wished (dk_wished _ _ _)) (ea_cons (ev_var rfl) ea_nil)) fun H3 e3 Q q E => ⟨z, wl, h.t, h.wish, n, rfl, DK.sz.ex (e2.trans e3), sq_of ((e2.trans e3) _ _ DK.wl), DK.bdS, bw n hm, q⟩) ea_nil)) (by show (2 : Nat) ≤ 100000; decide)) ?_ fun H3 e3 => ⟨_, rfl, Ex.mut (e2.trans e3) nfo, ?_⟩
      · simp only [List.length_append, List.length_map, hfl, List.length_take, List.length_cons, List.length_nil]
        omega
      · rw [upd_same, List.take_succ, hn, show (some n).toList = [n] from rfl, flat_snoc, List.map_append, List.append_assoc]
        rfl
    · rintro σ' H' ⟨x3, rfl, e2, hfo2⟩
      have e9 : (vI h.wish).length = h.wish.length := vI_len _
      rw [e9, List.take_length] at hfo2
      exact s_ret (ev_var rfl) fun H3 e3 => k1 fo H3 (FrN.ex (e2.trans e3)) (hT.ex (e2.trans e3)) ⟨g, z, wl, DK.ex (e2.trans e3)⟩ (e3 _ _ hfo2)
theorem ok_with_helpers (T : Txt K mg a) (FC : ∃ fd, FunC K "plan_with" "plan_with" s_plan_with a.f_plan_with fd c) (TB : TabB base mg c tp) : Good P w K mg base 7 a.f_with_helpers ["desk", "given"] (sp_deed K a tp (fun l => l.length ≤ 2000) .help) := by
  obtain ⟨fd, F⟩ := T.F_with_helpers
  refine ⟨⟨fd, F.okX sc_with_helpers (fun vs H Q E h => ?_) (fun cdv A outer s H vs Q E hr h => ⟨_, (pss_cons (ps_set (i := 2) sc_with_helpers.nd rfl (Or.inl rfl) (pe_g (ok_need_groupings T) (hr.mono (by decide)) rfl T.m_need_groupings (E := fun _ => E) (pxt (takes_of rfl rfl rfl rfl)) (pa_cons (pv 0) (pa_cons (pv 1) pa_nil))))
    (pss_cons (ps_expr (pe_g (ok_refuse_if T) (hr.mono (by decide)) rfl T.m_refuse_if (E := fun _ => E) (pxt (takes_of rfl rfl rfl rfl)) (pa_cons (pe_callB (cr_any rfl) (by rfl) T.b_any (by decide +kernel) (pa_cons (pe_lc (own := [("helper", 3)]) rfl sc_with_helpers.nd (pi_list (pv 2)) (blkOk_by (own := [("helper", 3)]) (N := ["desk", "given", "helpers", "helper"]) (sc := defScope s_with_helpers) (by decide +kernel)) (fun _ _ _ _ _ => (pg_name (i := 3) sc_with_helpers.nd rfl (Or.inl rfl))) (fun _ _ _ _ _ => pts_nil) (fun _ _ _ _ _ => (pe_cmpR (op_in_seqK (K := K)) (pv 3) (pe_fldK (K := K) (pv 0) rfl) (by rfl)))) pa_nil)) (pa_cons (pe_gi rfl T.m_IS_WISHED) pa_nil))))
    (pss_one (ps_ret (pe_g (ok_told_with T FC TB) (hr.mono (by decide)) rfl T.m_told_with (E := fun _ => E0) px0 (pa_cons (pv 0) (pa_cons (pv 2) pa_nil))))))), ?_⟩), F.binds fun _ _ _ _ _ _ us hl => match us, hl with | [_, _], _ => rfl⟩, T.k_with_helpers⟩
  · obtain ⟨d, p, z, wl, g, h, l, rfl, _⟩ := h
    rfl
  · obtain ⟨d, p, z, wl, g, h, l, rfl, DK, hp, hT, hl, k1, k2⟩ := h
    have ek := kept_eq h.t l
    have estep : Vamvsd.step (some h) (.help l) = (some h, match Vamvsd.keptOf h.t l with
      | none => VamvsBase.one (-2)
      | some k => if k.any (fun g => h.wish.contains g) = true then VamvsBase.one (-3) else planAnswer h k) := rfl
    refine q_asgG (ea_cons (ev_var rfl) (ea_cons (ev_var rfl) ea_nil)) fun H1 e1 => ⟨d, z, wl, p, g, h, l, rfl, DK.ex e1, ex_l e1 hp, hl, fun hb => ?_, fun hb r H2 hr e2 h2 => ?_⟩
    · rw [if_neg (by rw [hb]; decide)] at ek
      rw [ek] at estep
      exact (k2 _ estep).go e1
    · rw [if_pos hb] at ek
      rw [ek] at estep
      have e12 := e1.trans e2
      have DK2 := DK.ex e12
      obtain ⟨dx, hd⟩ := DK2.dk
      have kb : ∀ m ∈ keepI h.t l, m < 2 ^ width h.t := fun m hm => List.mem_range.mp (List.mem_filter.mp hm).1
      have knd : (keepI h.t l).Nodup := List.nodup_range.filter _
      have kl : (keepI h.t l).length ≤ 16 := Nat.le_trans (nodup_lt_len knd kb) (pow_le16 DK.sz.wf.c4)
      have eb : (((keepI h.t l).map fun n : Nat => (n : Int)).map fun i => V.bl (h.wish.contains i.toNat)) = ((keepI h.t l).map fun g => h.wish.contains g).map V.bl := by
        rw [List.map_map, List.map_map]
        exact List.map_congr_left fun m _ => by
          show V.bl (h.wish.contains ((m : Int)).toNat) = V.bl (h.wish.contains m)
          rw [Int.toNat_natCast]
      have ea : ((keepI h.t l).map fun g => h.wish.contains g).any id = (keepI h.t l).any fun g => h.wish.contains g := by
        rw [List.any_map]
        rfl
      refine q_dropG (ea_cons (ev_is (ev_any (bs := (keepI h.t l).map fun g => h.wish.contains g) (by
        rw [← eb]
        exact el_lcI (ev_var rfl) (by rw [← vI_ints]; exact sq_of h2) (by rw [List.length_map]; omega) (fun _ => rfl) fun n H3 e3 hn => by
          obtain ⟨m, hm, rfl⟩ := List.mem_map.mp hn
          show Ev _ _ _ (V.bl (h.wish.contains ((m : Int)).toNat))
          rw [Int.toNat_natCast]
          exact ev_op (ev_var rfl) (ev_fld (ev_var rfl) (e3 _ _ hd) T.cl_Desk T.n_Desk_wished (dk_wished _ _ _)) (in_sites m _ (e3 _ _ DK2.wl)))) (by rw [ea])) (ea_cons ev_c ea_nil)) fun H3 e3 => ⟨_, -3, rfl, fun hb3 => ?_, fun hb3 H4 e4 => ?_⟩
      · have es : Vamvsd.step (some h) (.help l) = (some h, VamvsBase.one (-3)) := estep.trans (congrArg (fun x => (some h, x)) (if_pos hb3))
        exact (k2 _ es).go (e12.trans e3)
      · have es : Vamvsd.step (some h) (.help l) = (some h, planAnswer h (keepI h.t l)) := estep.trans (congrArg (fun x => (some h, x)) (if_neg (by rw [hb3]; decide)))
        rw [es] at k1
        have e34 := e3.trans e4
        refine s_retG (ea_cons (ev_var rfl) (ea_cons (ev_var rfl) ea_nil)) fun H5 e5 => ⟨d, r, z, wl, g, h, keepI h.t l, rfl, DK2.ex (e34.trans e5), (e34.trans e5) _ _ h2, ?_, kb, hT.ex (e12.trans (e34.trans e5)), fun s H6 eN T6 h6 => k1 s H6 ((FrN.ex (e12.trans (e34.trans e5))).trans (FrN.exN eN)) T6 ⟨g, z, wl, (DK2.ex (e34.trans e5)).extN eN⟩ h6⟩
        rw [List.nodup_append]
        refine ⟨DK.bd.2.2, knd, fun x hx y hy e => ?_⟩
        have : ((keepI h.t l).any fun g => h.wish.contains g) = true := List.any_eq_true.mpr ⟨y, hy, by rw [← e]; exact List.contains_iff_mem.mpr hx⟩
        have hb3' : ((keepI h.t l).any fun g => h.wish.contains g) = false := hb3
        rw [this] at hb3'
        cases hb3'
end
end BA

namespace BA
open PySem PySem.Spec PyProof.Rows L2 Evl LamX
open VamvsBase (Bytes)
open Vamvsa (columnsOf width sizeOf_ reader)
open Vamvsd (parentNumber parentOf readOf oneCost buildCost lines Held planAnswer planOf run bestHelpers)
open VamvsdNeutral (encode)

theorem keep_one {t : Vamvsa.Table} {g : Int} (h : isG t g = true) : keepI t [g] = [g.toNat] ∧ g.toNat < 2 ^ width t ∧ ((g.toNat : Nat) : Int) = g := by
  unfold isG at h
  rw [Bool.and_eq_true, decide_eq_true_iff, decide_eq_true_iff] at h
  have e := Int.toNat_of_nonneg h.1
  have hb : g.toNat < 2 ^ width t := by omega
  refine ⟨?_, hb, e⟩
  have pw : (keepI t [g]).Pairwise (· < ·) := List.pairwise_lt_range.filter _
  refine sorted_eq ((List.perm_ext_iff_of_nodup (pw.imp Nat.ne_of_lt) (by simp)).mpr fun x => ?_) (pw.imp Nat.le_of_lt) (by simp)
  unfold keepI
  rw [List.mem_filter, List.contains_iff_mem, List.mem_singleton, List.mem_singleton]
  constructor
  · rintro ⟨_, hx⟩
    rw [← hx]
    exact (Int.toNat_natCast x).symm
  · rintro rfl
    exact ⟨List.mem_range.mpr hb, e⟩
theorem reader_eq {t : Vamvsa.Table} {k : List Nat} {g : Nat} (hw : (Vamvsa.groupings t).filter (fun g => k.contains g) = k) (h4 : width t ≤ 4) (hg : g < 2 ^ width t) : reader t k g = (k.filter fun v => hasB v g).foldl (minStep t) none := by
  have hk : ∀ v ∈ k, v < 2 ^ width t := fun v hv => by
    rw [← hw] at hv
    exact List.mem_range.mp (List.mem_filter.mp hv).1
  have hs : k.Pairwise (· ≤ ·) := by
    rw [← hw]
    exact (List.pairwise_lt_range.filter _).imp Nat.le_of_lt
  have ef : (k.filter fun v => hasB v g) = k.filter fun v => Vamvsa.canFrom (width t) v g := List.filter_congr fun v hv => hasB_eq h4 (hk v hv) hg
  rw [ef, ← smallest_eq, sorted_eq (srt_perm _) (srt_sorted _) (hs.filter _)]
  unfold reader Vamvsa.sortedKept
  rw [hw]
  have key : ∀ (l : List Nat) (b : Option Nat), l.foldl (Vamvsa.better t g) b = (l.filter fun v => Vamvsa.canFrom (width t) v g).foldl (sStep t) b := by
    intro l
    induction l with
    | nil => intro b; rfl
    | cons v l ih =>
      intro b
      rw [List.foldl_cons, List.filter_cons]
      cases hc : Vamvsa.canFrom (width t) v g
      · rw [show Vamvsa.better t g b v = b by unfold Vamvsa.better; rw [if_pos hc]]
        exact ih b
      · rw [show Vamvsa.better t g b v = sStep t b v by unfold Vamvsa.better sStep; rw [if_neg (by rw [hc]; decide)]; cases b <;> rfl]
        exact ih _
  exact key k none
def sp_is_step (a : Ad) : Sp := fun vs H Q _ => ∃ (d z wl : Addr) (g : TG_) (h : Held) (n u : Int), vs = [.ref d, .int n, .int u] ∧ DkAt a H d g z wl h ∧ RetV (.bl (isG h.t n && (decide (u ∈ [(-1 : Int), -2]) || isG h.t u))) H Q
def sp_read_by (a : Ad) : Sp := fun vs H Q _ => ∃ (d z wl : Addr) (g : TG_) (h : Held) (q : Nat), vs = [.ref d, .int (q : Nat)] ∧ DkAt a H d g z wl h ∧ q < 2 ^ width h.t ∧ RetV (.int (parentNumber (reader h.t h.wish q))) H Q
section
variable {K : PySem.W.Frag} {σ : L2.St} {H H' : Hp} {ta tb te tl : TE} {x y z v : V} {D : Ends} {tu tw tz : TS} {tg : TG}
theorem q_asgIxG {sp : Sp} {E : L2.St → XK} {t : TA} {vs : List V} {i : Nat} (ha : EvA t σ H vs) (h : ∀ H1, Ex H H1 → sp vs H1 (fun x H2 => rIxL K x (.int 0) H2 fun v H3 => tz D (σ.set i (some v)) H3) (E σ)) : tSeq (tAsg (tOp (rIxL K) (tG sp E t) (tC (.int 0))) (gName i)) tz D σ H :=
  ha H (Ex.refl _) _ fun H1 e1 => h H1 e1
end
section
variable {P : Program} {w : World} {K : PySem.W.Frag} {mg : Str → Option Value} {base : Heap} {a : Ad} {H H' : Hp} {σ : L2.St} {D : Ends} {tz : TS} {ta tb te : TE} {z p c tp : Addr}
theorem ok_is_step (T : Txt K mg a) : Good P w K mg base 2 a.f_is_step ["desk", "grouping", "source"] (sp_is_step a) := by
  obtain ⟨fd, F⟩ := T.F_is_step
  refine ⟨⟨fd, F.okX sc_is_step (fun vs H Q E h => ?_) (fun cdv A outer s H vs Q E hr h => ⟨_, (pss_one (ps_ret (pe_and (pe_g (ok_is_grouping T) (hr.mono (by decide)) rfl T.m_is_grouping (E := fun _ => E0) px0 (pa_cons (pv 0) (pa_cons (pv 1) pa_nil))) (pe_one (pe_or (pe_cmpR op_in_seq (pv 2) (pe_tup (pa_cons (pe_gi rfl T.m_TABLE) (pa_cons (pe_gi rfl T.m_DROPPED) pa_nil))) (by rfl)) (pe_one (pe_g (ok_is_grouping T) (hr.mono (by decide)) rfl T.m_is_grouping (E := fun _ => E0) px0 (pa_cons (pv 0) (pa_cons (pv 2) pa_nil))))))))), ?_⟩), F.binds fun _ _ _ _ _ _ us hl => match us, hl with | [_, _, _], _ => rfl⟩, T.k_is_step⟩
  · obtain ⟨d, z, wl, g, h, n, u, rfl, _⟩ := h
    rfl
  · obtain ⟨d, z, wl, g, h, n, u, rfl, DK, k⟩ := h
    have ein : inV (.int u) [V.int (-1), .int (-2)] = decide (u ∈ [(-1 : Int), -2]) := inV_ints u [-1, -2]
    refine s_ret (ev_andV (ev_g (ea_cons (ev_var rfl) (ea_cons (ev_var rfl) ea_nil)) fun H1 e1 Q q E => ⟨d, z, wl, g, h, n, rfl, DK.ex e1, q⟩) fun _ => ev_orV (ev_is (ev_opU (ev_var rfl) (eu_tup (vs := [.int (-1), .int (-2)]) (ea_cons ev_c (ea_cons ev_c ea_nil)) (by decide)) fun r H1 h1 e1 => rv_inT (st_of h1) rfl rfl) (by
      show V.bl (inV (.int u) [V.int (-1), .int (-2)]) = _
      rw [ein])) fun _ => ev_g (ea_cons (ev_var rfl) (ea_cons (ev_var rfl) ea_nil)) fun H1 e1 Q q E => ⟨d, z, wl, g, h, u, rfl, DK.ex e1, q⟩) k
theorem ok_read_by (T : Txt K mg a) : Good P w K mg base 2 a.f_read_by ["desk", "question"] (sp_read_by a) := by
  obtain ⟨fd, F⟩ := T.F_read_by
  refine ⟨⟨fd, F.okX sc_read_by (fun vs H Q E h => ?_) (fun cdv A outer s H vs Q E hr h => ⟨_, (pss_one (ps_ret (pe_gm (ok_Sizes_smallest T) (pe_fld (pv 0) rfl) T.cl_Sizes T.me_Sizes_smallest (hr.mono (by decide)) (E := fun _ => E0) px0 (pa_cons (pe_lc (own := [("grouping", 2)]) rfl sc_read_by.nd (pi_list (pe_fld (pv 0) rfl)) (blkOk_by (own := [("grouping", 2)]) (N := ["desk", "question", "grouping"]) (sc := defScope s_read_by) (by decide +kernel)) (fun _ _ _ _ _ => (pg_name (i := 2) sc_read_by.nd rfl (Or.inl rfl))) (fun _ _ _ _ _ => (pts_one (pt_val (pe_g (ok_has_all T) (hr.mono (by decide)) rfl T.m_has_all (E := fun _ => E0) px0 (pa_cons (pv 2) (pa_cons (pv 1) pa_nil)))))) (fun _ _ _ _ _ => (pv 2))) pa_nil)))), ?_⟩), F.binds fun _ _ _ _ _ _ us hl => match us, hl with | [_, _], _ => rfl⟩, T.k_read_by⟩
  · obtain ⟨d, z, wl, g, h, q, rfl, _⟩ := h
    rfl
  · obtain ⟨d, z, wl, g, h, q, rfl, DK, hq, k⟩ := h
    obtain ⟨dx, hd⟩ := DK.dk
    obtain ⟨⟨dz, lz, z1, z2⟩, wf⟩ := id DK.sz
    obtain ⟨bw, bl, _⟩ := DK.bd
    rw [reader_eq DK.ws wf.c4 hq] at k
    have lst : EvL (tLc (iList K (tFld K (tVar 0) "wished")) (gName 2) (tB (tG sp_has_all (fun _ => E0) (tCons (tVar 2) (tCons (tVar 1) tNil)))) (tVar 2) [2]) [some (.ref d), some (.int (q : Nat)), none] H (vI (h.wish.filter fun v => hasB v q)) := by
      rw [← given_filter]
      refine el_lcL _ _ (ev_fld (ev_var rfl) hd T.cl_Desk T.n_Desk_wished (dk_wished _ _ _)) (sq_of DK.wl) (by rw [vI_len]; omega) (fun _ => rfl) (fun i x H1 e1 hi => ?_) fun i x H1 e1 hi hf => ?_
      · obtain ⟨n, hn, rfl⟩ := vI_get hi
        rw [show h.wish.getD i 0 = n by rw [List.getD_eq_getElem?_getD, hn]; rfl]
        exact et_B (ev_g (ea_cons (ev_var rfl) (ea_cons (ev_var rfl) ea_nil)) spv_has)
      · obtain ⟨n, hn, rfl⟩ := vI_get hi
        rw [show h.wish.getD i 0 = n by rw [List.getD_eq_getElem?_getD, hn]; rfl]
        exact ev_var rfl
    refine s_ret (v := .int (parentNumber ((h.wish.filter fun v => hasB v q).foldl (minStep h.t) none))) (fun H1 e1 Q q => ev_fld (ev_var rfl) hd T.cl_Desk T.n_Desk_sizes (dk_sizes _ _ _) H1 e1 _ fun H2 e2 => ⟨z, dz, _, rfl, (e1.trans e2) _ _ z1, szF_none _ _ (by decide +kernel) (by decide +kernel), lst H2 (e1.trans e2) _ fun r H3 hr e3 h3 => ⟨z, r, h.t, _, rfl, DK.sz.ex ((e1.trans e2).trans e3), sq_of h3, ⟨fun s hs => bw s (List.mem_filter.mp hs).1, Nat.le_trans (List.length_filter_le _ _) (Nat.le_trans bl (by decide))⟩, fun H4 e4 => q H4 ((e2.trans e3).trans e4)⟩⟩) k
theorem ok_from_all (T : Txt K mg a) : Good P w K mg base 5 a.f_from_all ["desk", "given"] (sp_deed K a tp (fun l => ∃ g, l = [g]) fun l => .from_ (l.headD 0)) := by
  obtain ⟨fd, F⟩ := T.F_from_all
  refine ⟨⟨fd, F.okX sc_from_all (fun vs H Q E h => ?_) (fun cdv A outer s H vs Q E hr h => ⟨_, (pss_cons (ps_set (i := 2) sc_from_all.nd rfl (Or.inr rfl) (pe_ix ix_list (pe_g (ok_need_groupings T) (hr.mono (by decide)) rfl T.m_need_groupings (E := fun _ => E) (pxt (takes_of rfl rfl rfl rfl)) (pa_cons (pv 0) (pa_cons (pv 1) pa_nil))) pe_int (fun _ _ => rfl)))
    (pss_cons (ps_setLc (i := 4) (own := [("other", 3)]) rfl sc_from_all.nd rfl rfl (sw_true rfl rfl rfl (by decide +kernel)) (pi_range1 rfl T.b_range (pa_cons (pe_callB call_len_seq (by rfl) T.b_len (by decide +kernel) (pa_cons (pe_fld (pe_fld (pv 0) rfl) rfl) pa_nil)) pa_nil)) (blkOk_by (own := [("other", 3)]) (N := ["desk", "given", "grouping", "other", "above", "found"]) (sc := defScope s_from_all) (by decide +kernel)) (fun _ _ _ _ _ => (pg_name (i := 3) sc_from_all.nd rfl (Or.inl rfl))) (fun _ _ _ _ _ => (pts_one (pt_val (pe_g (ok_is_above T) (hr.mono (by decide)) rfl T.m_is_above (E := fun _ => E0) px0 (pa_cons (pv 3) (pa_cons (pv 2) pa_nil)))))) (fun _ _ _ _ _ => (pv 3)))
    (pss_cons (ps_set (i := 5) sc_from_all.nd rfl (Or.inl rfl) (pe_lst (pa_cons (pe_gm (ok_Sizes_build_cost T) (pe_fld (pv 0) rfl) T.cl_Sizes T.me_Sizes_build_cost (hr.mono (by decide)) (E := fun _ => E0) px0 (pa_cons (pv 2) (pa_cons (pe_gi rfl T.m_TABLE) pa_nil))) (pa_cons (pe_callB call_len_seq (by rfl) T.b_len (by decide +kernel) (pa_cons (pv 4) pa_nil)) pa_nil))))
    (pss_cons (ps_for (passes_of rfl) rfl (pi_list (pv 4)) (pg_name (i := 3) sc_from_all.nd rfl (Or.inl rfl))
      (pss_one (ps_expr (pe_bm PySem.F.plainAttrs_list PySem.F.slot_list_extend PySem.F.type_list_extend mt_extend (pv 5) (pa_cons (pe_lst (pa_cons (pv 3) (pa_cons (pe_gm (ok_Sizes_build_cost T) (pe_fld (pv 0) rfl) T.cl_Sizes T.me_Sizes_build_cost (hr.mono (by decide)) (E := fun _ => E0) px0 (pa_cons (pv 2) (pa_cons (pv 3) pa_nil))) pa_nil))) pa_nil)))))
    (pss_one (ps_ret (pv 5))))))), ?_⟩), F.binds fun _ _ _ _ _ _ us hl => match us, hl with | [_, _], _ => rfl⟩, T.k_from_all⟩
  · obtain ⟨d, p, z, wl, g, h, l, rfl, _⟩ := h
    rfl
  · obtain ⟨d, p, z, wl, g, h, l, rfl, DK, hp, hT, ⟨n, rfl⟩, k1, k2⟩ := h
    have estep : Vamvsd.step (some h) (.from_ n) = (some h, match VamvsBase.index n (2 ^ width h.t) with
      | none => VamvsBase.one (-2)
      | some x => let us := (Vamvsa.groupings h.t).filter fun u => Vamvsd.above h.t u x; ⟨(oneCost h.t none x : Int), (us.length : Int) :: us.flatMap fun u => Vamvsd.nats [u, oneCost h.t (some u) x]⟩) := rfl
    have eall : [n].all (isG h.t) = isG h.t n := Bool.and_true _
    refine q_asgIxG (ea_cons (ev_var rfl) (ea_cons (ev_var rfl) ea_nil)) fun H1 e1 => ⟨d, z, wl, p, g, h, [n], rfl, DK.ex e1, ex_l e1 hp, by show 1 ≤ 2000; decide, fun hb => ?_, fun hb r H2 hr e2 h2 => ?_⟩
    · rw [eall] at hb
      have en := idx_none (t := h.t) (n := n)
      rw [hb] at en
      rw [Option.isNone_iff_eq_none.mp en] at estep
      exact (k2 _ estep).go e1
    · rw [eall] at hb
      obtain ⟨o1, o2, o3⟩ := keep_one hb
      have ei : VamvsBase.index n (2 ^ width h.t) = some n.toNat := by
        unfold isG at hb
        rw [Bool.and_eq_true, decide_eq_true_iff, decide_eq_true_iff] at hb
        exact if_pos hb
      rw [ei] at estep
      have k1 : ∀ r H', FrN [d] H H' → TT_ tp H' → DkO a H' d (Vamvsd.step (some h) (.from_ n)).1 → H' r = some (.lst ((encode (Vamvsd.step (some h) (.from_ n)).2).map V.int)) → Q (.ref r) H' := k1
      have estep2 : Vamvsd.step (some h) (.from_ n) = (some h, ⟨(oneCost h.t none n.toNat : Int), (((Vamvsa.groupings h.t).filter fun u => Vamvsd.above h.t u n.toNat).length : Int) :: ((Vamvsa.groupings h.t).filter fun u => Vamvsd.above h.t u n.toNat).flatMap fun u => Vamvsd.nats [u, oneCost h.t (some u) n.toNat]⟩) := estep
      rw [estep2] at k1
      rw [o1] at h2
      generalize n.toNat = m at o2 h2 k1
      refine ⟨r, _, 0, .int (m : Nat), rfl, rfl, sq_of h2, rfl, ?_⟩
      have e12 := e1.trans e2
      have DK2 := DK.ex e12
      obtain ⟨dx, hd⟩ := DK2.dk
      obtain ⟨⟨dz, lz, z1, z2⟩, wf⟩ := id DK2.sz
      have hp16 : 2 ^ width h.t ≤ 16 := pow_le16 wf.c4
      have hfS : ∀ {σ : L2.St}, σ[0]? = some (some (.ref d)) → Ev (tFld K (tVar 0) "sizes") σ H2 (.ref z) := fun h0 => ev_fld (ev_var h0) hd T.cl_Desk T.n_Desk_sizes (dk_sizes _ _ _)
      have hul : ((Vamvsa.groupings h.t).filter fun u => Vamvsd.above h.t u m).length ≤ 16 := by
        refine Nat.le_trans (List.length_filter_le _ _) ?_
        show (List.range _).length ≤ 16
        rw [List.length_range]
        exact hp16
      have hub : ∀ u ∈ (Vamvsa.groupings h.t).filter fun u => Vamvsd.above h.t u m, u < 2 ^ width h.t := fun u hu => List.mem_range.mp (List.mem_filter.mp hu).1
      refine q_asgL (xs := vI ((Vamvsa.groupings h.t).filter fun u => Vamvsd.above h.t u m)) ?_ fun ab H3 nab e3 hab => ?_
      · have eg : given ((((2 ^ width h.t : Nat) : Int)).toNat) (fun u => aboveB u m) (fun i => V.int (i : Nat)) = vI ((Vamvsa.groupings h.t).filter fun u => Vamvsd.above h.t u m) := by
          rw [given_vI, Int.toNat_natCast]
          congr 1
          exact List.filter_congr fun u hu => aboveB_eq wf.c4 (List.mem_range.mp hu) o2
        rw [← eg]
        refine el_lcR1 _ _ (ea_cons (ev_is (ev_len (ev_fld (hfS rfl) z1 T.cl_Sizes T.n_Sizes_lines (szF_lines _ _)) (sq_of z2)) (by rw [vI_len, sizesL_len])) ea_nil) ⟨Int.natCast_nonneg _, Int.ofNat_le.mpr (by omega : 2 ^ width h.t ≤ 40000)⟩ (fun _ => rfl) (fun i H4 e4 hi => et_B (ev_g (ea_cons (ev_var rfl) (ea_cons (ev_var rfl) ea_nil)) spv_above)) fun i H4 e4 hi hf => ev_var rfl
      generalize (Vamvsa.groupings h.t).filter (fun u => Vamvsd.above h.t u m) = us at hul hub hab k1
      have DK3 := DK2.ex e3
      refine q_asgL (xs := [.int (oneCost h.t none m : Nat), .int (us.length : Nat)]) (el_lst (ea_cons (ev_gm (ev_fld (ev_var rfl) (e3 _ _ hd) T.cl_Desk T.n_Desk_sizes (dk_sizes _ _ _)) (e3 _ _ z1) (szF_none _ _ (by decide +kernel) (by decide +kernel)) (ea_cons (ev_var rfl) (ea_cons ev_c ea_nil)) fun H4 e4 Q q E => ⟨z, h.t, none, m, rfl, DK3.sz.ex e4, (fun v hv => nomatch hv), o2, q⟩) (ea_cons (ev_is (ev_len (ev_var rfl) (sq_of hab)) (by rw [vI_len])) ea_nil)) (by show (2 : Nat) ≤ 100000; decide)) fun fo H4 nfo e4 hfo => ?_
      have nfo2 : H2 fo = none := fresh_back e3 nfo
      refine q_forLn (xs := vI us) (ev_var rfl) (sq_of (e4 _ _ hab)) (fun i σ' H' => ∃ x3, σ' = [some (.ref d), some (.ref p), some (.int (m : Nat)), x3, some (.ref ab), some (.ref fo)] ∧ Ex H3 H' ∧ H' fo = some (.lst ([.int (oneCost h.t none m : Nat), .int (us.length : Nat)] ++ ((us.take i).flatMap fun u => Vamvsd.nats [u, oneCost h.t (some u) m]).map V.int)))
        (fun H5 e5 => ⟨none, rfl, e4.trans e5, by rw [List.take_zero]; exact e5 _ _ hfo⟩) (fun i σ' H' _ ⟨_, _, e, _⟩ => sq_of (e _ _ hab)) ?_ ?_
      · rintro i x σ' H' hi ⟨x3, rfl, e5, hfo5⟩
        obtain ⟨u, hu, hm, rfl⟩ := vI_mem hi
        have hfl : ∀ L : List Nat, (L.flatMap fun u => Vamvsd.nats [u, oneCost h.t (some u) m]).length = 2 * L.length := fun L => by
          induction L with
          | nil => rfl
          | cons b L ih =>
            rw [List.flatMap_cons, List.length_append, ih]
            show 2 + 2 * L.length = 2 * (L.length + 1)
            omega
        refine s_ext (ys := [.int (u : Nat), .int (oneCost h.t (some u) m : Nat)]) hfo5 (ev_var rfl) (el_lst (ea_cons (ev_var rfl) (ea_cons (ev_gm (ev_fld (ev_var rfl) (e5 _ _ (e3 _ _ hd)) T.cl_Desk T.n_Desk_sizes (dk_sizes _ _ _)) (e5 _ _ (e3 _ _ z1)) (szF_none _ _ (by decide +kernel) (by decide +kernel)) (ea_cons (ev_var rfl) (ea_cons (ev_var rfl) ea_nil)) fun H6 e6 Q q E => ⟨z, h.t, some u, m, rfl, DK3.sz.ex (e5.trans e6), (fun v hv => by cases hv; exact hub u hm), o2, q⟩) ea_nil)) (by show (2 : Nat) ≤ 100000; decide)) ?_ fun H6 e6 => ⟨_, rfl, Ex.mut (e5.trans e6) nfo, ?_⟩
        · simp only [List.length_append, List.length_map, hfl, List.length_take, List.length_cons, List.length_nil]
          omega
        · rw [upd_same, List.take_succ, hu, show (some u).toList = [u] from rfl, flat_snoc, List.map_append, List.append_assoc]
          rfl
      · rintro σ' H' ⟨x3, rfl, e5, hfo5⟩
        have e9 : (vI us).length = us.length := vI_len _
        rw [e9, List.take_length] at hfo5
        have e0 := (e12.trans e3).trans e5
        exact s_ret (ev_var rfl) fun H6 e6 => k1 fo H6 (FrN.ex (e0.trans e6)) (hT.ex (e0.trans e6)) ⟨g, z, wl, DK.ex (e0.trans e6)⟩ (e6 _ _ hfo5)
end
end BA

namespace BA
open PySem PySem.Spec PyProof.Rows L2 Evl LamX
open VamvsBase (Bytes)
open Vamvsa (columnsOf width sizeOf_ reader costOf)
open Vamvsd (parentNumber parentOf readOf oneCost buildCost lines Held planAnswer planOf run bestHelpers)
open VamvsdNeutral (encode)

theorem cost_read (t : Vamvsa.Table) (k : List Nat) (g : Nat) : costOf t k g = readOf t (reader t k g) := by
  unfold costOf readOf
  cases reader t k g <;> rfl
theorem reader_lt {t : Vamvsa.Table} {k : List Nat} {g : Nat} (hw : (Vamvsa.groupings t).filter (fun g => k.contains g) = k) (h4 : width t ≤ 4) (hg : g < 2 ^ width t) : srcOk t (reader t k g) := fun v hv => by
  rw [reader_eq hw h4 hg] at hv
  have := (List.mem_filter.mp (min_mem hv)).1
  rw [← hw] at this
  exact List.mem_range.mp (List.mem_filter.mp this).1
section
variable {K : PySem.W.Frag} {σ : L2.St} {H H' : Hp} {ta tb te tl : TE} {x y z v : V} {D : Ends} {tu tw tz : TS} {tg : TG}
theorem q_asgT2 {i j : Nat} {R : V → V → Hp → Prop} (h : ∀ Q : VK, (∀ p u v H1, Ex H H1 → H1 p = some (.tup [u, v]) → R u v H1 → Q (.ref p) H1) → te σ H Q) (k : ∀ u v H1, Ex H H1 → R u v H1 → tz D ((σ.set i (some u)).set j (some v)) H1) :
    tSeq (tAsg te (gTup K 2 (gCons (gName i) (gCons (gName j) gNil)))) tz D σ H := h _ fun p u v H1 e hp hR => ⟨p, _, rfl, st_of hp, rfl, _, _, rfl, _, _, rfl, rfl, k u v H1 e hR⟩
theorem ep_pairLV {ys : List V} (ha : EvL ta σ H ys) (hb : Ev tb σ H v) : ∀ Q : VK, (∀ p u w H1, Ex H H1 → H1 p = some (.tup [u, w]) → (∃ l, u = V.ref l ∧ w = v ∧ H l = none ∧ H1 l = some (.lst ys)) → Q (.ref p) H1) → tTup (tCons ta (tCons tb tNil)) σ H Q := fun Q q =>
  ha H (Ex.refl _) _ fun l H1 hl e1 h1 => hb H1 e1 _ fun H2 e2 => ⟨(by show 2 ≤ sizeLine; decide), fun p hp => q p _ _ _ ((e1.trans e2).trans (Ex.new hp)) upd_same ⟨l, rfl, rfl, hl, by rw [upd_ne (ne_of_none (e2 _ _ h1) hp)]; exact e2 _ _ h1⟩⟩
theorem q_appI {l : Addr} {xs : List V} (hl : H l = some (.lst xs)) (ha : Ev ta σ H (.ref l)) (h : Ev te σ H v) (hz : xs.length < 100000) (k : ∀ H1, Ex H H1 → tz D σ (upd H1 l (.lst (xs ++ [v])))) :
    tSeq (tDrop (tBM K "list" rAppend ta (tCons te tNil))) tz D σ H := s_app (D := { D with nx := tz D }) hl ha h hz k
end
section
variable {P : Program} {w : World} {K : PySem.W.Frag} {mg : Str → Option Value} {base : Heap} {a : Ad} {H H' : Hp} {σ : L2.St} {D : Ends} {tz : TS} {ta tb te : TE} {z p c tp : Addr}
theorem ok_idle (T : Txt K mg a) : Good P w K mg base 3 a.f_idle ["desk", "given"] (sp_deed K a tp (fun _ => True) fun _ => .idle) := by
  obtain ⟨fd, F⟩ := T.F_idle
  refine ⟨⟨fd, F.okX sc_idle (fun vs H Q E h => ?_) (fun cdv A outer s H vs Q E hr h => ⟨_, (pss_cons (ps_asg (pe_tup (pa_cons (pe_lst pa_nil) (pa_cons pe_int pa_nil))) (pg_tup rfl (pgs_cons (pg_name (i := 2) sc_idle.nd rfl (Or.inr rfl)) (pgs_cons (pg_name (i := 3) sc_idle.nd rfl (Or.inl rfl)) pgs_nil))))
    (pss_cons (ps_for (passes_of rfl) rfl (pi_list (pe_fld (pe_fld (pv 0) rfl) rfl)) (pg_tup rfl (pgs_cons (pg_name (i := 4) sc_idle.nd rfl (Or.inl rfl)) (pgs_cons (pg_name (i := 5) sc_idle.nd rfl (Or.inl rfl)) pgs_nil)))
      (pss_cons (ps_set (i := 6) sc_idle.nd rfl (Or.inl rfl) (pe_g (ok_read_by T) (hr.mono (by decide)) rfl T.m_read_by (E := fun _ => E0) px0 (pa_cons (pv 0) (pa_cons (pv 4) pa_nil))))
    (pss_cons (ps_expr (pe_bm PySem.F.plainAttrs_list PySem.F.slot_list_append PySem.F.type_list_append mt_append (pv 2) (pa_cons (pv 6) pa_nil)))
    (pss_one (ps_aug (i := 3) sc_idle.nd rfl (Or.inl rfl) (pe_op op_mul (pv 5) (pe_gm (ok_Sizes_read_from T) (pe_fld (pv 0) rfl) T.cl_Sizes T.me_Sizes_read_from (hr.mono (by decide)) (E := fun _ => E0) px0 (pa_cons (pv 6) pa_nil))) ip_add)))))
    (pss_cons (ps_setLc (i := 7) (own := [("grouping", 8)]) rfl sc_idle.nd rfl rfl (sw_true rfl rfl rfl (by decide +kernel)) (pi_list (pe_fld (pv 0) rfl)) (blkOk_by (own := [("grouping", 8)]) (N := ["desk", "given", "read", "cost", "question", "times", "source", "found", "grouping"]) (sc := defScope s_idle) (by decide +kernel)) (fun _ _ _ _ _ => (pg_name (i := 8) sc_idle.nd rfl (Or.inl rfl))) (fun _ _ _ _ _ => (pts_one (pt_cmpR (op_notIn_seqK (K := K)) (pv 8) (pv 2) (by rfl)))) (fun _ _ _ _ _ => (pv 8)))
    (pss_one (ps_ret (pe_op op_cat (pe_op op_cat (pe_lst (pa_cons (pe_callB call_len_seq (by rfl) T.b_len (by decide +kernel) (pa_cons (pv 7) pa_nil)) pa_nil)) (pv 7)) (pe_lst (pa_cons (pv 3) pa_nil)))))))), ?_⟩), F.binds fun _ _ _ _ _ _ us hl => match us, hl with | [_, _], _ => rfl⟩, T.k_idle⟩
  · obtain ⟨d, p, z, wl, g, h, l, rfl, _⟩ := h
    rfl
  · obtain ⟨d, p, z, wl, g, h, l, rfl, DK, hp, hT, _, k1, k2⟩ := h
    obtain ⟨dx, hd⟩ := DK.dk
    obtain ⟨⟨dz, lz, z1, z2⟩, wf⟩ := id DK.sz
    obtain ⟨bw, bl, _⟩ := DK.bd
    obtain ⟨dt, htb⟩ := DK.tb.tb
    refine q_asgT2 (R := fun u v H1 => ∃ l, u = .ref l ∧ v = .int 0 ∧ H l = none ∧ H1 l = some (.lst [])) (ep_pairLV (el_lst ea_nil (by decide)) ev_c) fun u v H1 e1 ⟨rd, eu, ev, nrd, hrd⟩ => ?_
    subst eu ev
    refine q_for2 (xs := refs g.qs) (ev_fld (ev_fld (ev_var rfl) (e1 _ _ hd) T.cl_Desk T.n_Desk_table (dk_table _ _ _)) (e1 _ _ htb) T.cl_Table T.n_Table_questions (tabF_q g)) (sq_of (e1 _ _ DK.tb.q)) (fun i σ' H' => ∃ x4 x5 x6, σ' = [some (.ref d), some (.ref p), some (.ref rd), some (.int (((h.t.asks.take i).map fun x => x.k * costOf h.t h.wish x.g).sum : Nat)), x4, x5, x6, none, none] ∧ Ex H H' ∧ i ≤ h.t.asks.length ∧ H' rd = some (.lst (((h.t.asks.take i).map fun x => parentNumber (reader h.t h.wish x.g)).map V.int)))
      (fun H2 e2 => ⟨none, none, none, by rw [List.take_zero]; rfl, e1.trans e2, Nat.zero_le _, by rw [List.take_zero]; exact e2 _ _ hrd⟩) (fun i σ' H' _ ⟨_, _, _, _, e, _⟩ => sq_of (e _ _ DK.tb.q)) ?_ ?_
    · rintro i wv σ' H' hi ⟨x4, x5, x6, rfl, e2, hil, hrd2⟩
      unfold refs at hi
      rw [List.getElem?_map] at hi
      cases hqi : g.qs[i]? with
      | none => rw [hqi] at hi; cases hi
      | some r =>
        rw [hqi] at hi
        cases hi
        obtain ⟨ask, hask, hr⟩ := prs_getL DK.tb.qs hqi
        have hmem := List.mem_of_getElem? hask
        have hlt := (List.getElem?_eq_some_iff.mp hask).1
        obtain ⟨w1, _, _⟩ := wf.aw ask hmem
        have DK2 := DK.ex e2
        obtain ⟨dx2, hd2⟩ := DK2.dk
        refine ⟨r, .int (ask.g : Nat), .int (ask.k : Nat), rfl, st_of (e2 _ _ hr), ?_⟩
        refine q_asg (ev_g (z := .int (parentNumber (reader h.t h.wish ask.g))) (ea_cons (ev_var rfl) (ea_cons (ev_var rfl) ea_nil)) fun H3 e3 Q q E => ⟨d, z, wl, g, h, ask.g, rfl, DK2.ex e3, w1, q⟩) fun H3 e3 => ?_
        refine q_appI (e3 _ _ hrd2) (ev_var rfl) (ev_var rfl) (by rw [List.length_map, List.length_map, List.length_take]; have := wf.a8; omega) fun H4 e4 => ?_
        have e234 := (e2.trans e3).trans e4
        have e5 : Ex H (upd H4 rd (.lst (((h.t.asks.take i).map fun x => parentNumber (reader h.t h.wish x.g)).map V.int ++ [.int (parentNumber (reader h.t h.wish ask.g))]))) := Ex.mut e234 nrd
        have DK5 := DK.ex e5
        obtain ⟨dx5, hd5⟩ := DK5.dk
        have hmul : CMul ((ask.k : Nat) : Int) ((readOf h.t (reader h.t h.wish ask.g) : Nat) : Int) := by
          obtain ⟨_, _, w3⟩ := wf.aw ask hmem
          have hr16 : readOf h.t (reader h.t h.wish ask.g) ≤ 16 := by
            unfold readOf
            split
            · exact wf.r16
            · exact Nat.le_trans (sizeOf_le _ _) wf.r16
          refine .inr ⟨?_, ?_⟩
          · have : (-(2 ^ 64) : Int) < 0 := by decide
            omega
          · have : (17 : Int) < 2 ^ 64 := by decide
            omega
        refine s_aug rfl (ev_op (ev_var rfl) (ev_gm (ev_fld (ev_var rfl) hd5 T.cl_Desk T.n_Desk_sizes (dk_sizes _ _ _)) (e5 _ _ z1) (szF_none _ _ (by decide +kernel) (by decide +kernel)) (ea_cons (ev_var rfl) ea_nil) fun H6 e6 Q q E => ⟨z, h.t, reader h.t h.wish ask.g, rfl, DK5.sz.ex e6, reader_lt DK.ws wf.c4 w1, q⟩) (rv_I hmul)) fun H6 e6 => ⟨some (.int (ask.g : Nat)), some (.int (ask.k : Nat)), some (.int (parentNumber (reader h.t h.wish ask.g))), ?_, e5.trans e6, hlt, ?_⟩
        · rw [List.take_succ, hask, show (some ask).toList = [ask] from rfl, List.map_append, List.sum_append]
          have hc1 : ((([ask] : List Vamvsa.Ask).map fun x => x.k * costOf h.t h.wish x.g).sum) = ask.k * readOf h.t (reader h.t h.wish ask.g) := by
            show ask.k * costOf h.t h.wish ask.g + 0 = _
            rw [cost_read, Nat.add_zero]
          rw [hc1]
          refine congrArg (fun i => [some (V.ref d), some (.ref p), some (.ref rd), some (.int i), _, _, _, none, none]) ?_
          show (_ : Int) + ((ask.k : Nat) : Int) * ((readOf h.t (reader h.t h.wish ask.g) : Nat) : Int) = ((_ + ask.k * readOf h.t (reader h.t h.wish ask.g) : Nat) : Int)
          rw [Int.natCast_add, Int.natCast_mul]
        · rw [List.take_succ, hask, show (some ask).toList = [ask] from rfl, List.map_append, List.map_append]
          exact e6 _ _ upd_same
    · rintro σ' H' ⟨x4, x5, x6, rfl, e2, _, hrd2⟩
      have hql : (refs g.qs).length = h.t.asks.length := by rw [refs_len]; exact prs_len DK.tb.qs
      rw [hql, List.take_length] at hrd2 ⊢
      have DK2 := DK.ex e2
      obtain ⟨dx2, hd2⟩ := DK2.dk
      have eidle : Vamvsd.idle h.t h.wish = h.wish.filter fun g => !decide (((g : Nat) : Int) ∈ h.t.asks.map fun x => parentNumber (reader h.t h.wish x.g)) := by
        unfold Vamvsd.idle
        refine List.filter_congr fun g hg => ?_
        congr 1
        rw [Bool.eq_iff_iff, List.any_eq_true, decide_eq_true_iff, List.mem_map]
        constructor
        · rintro ⟨x, hx, e⟩
          exact ⟨x, hx, by rw [beq_iff_eq.mp e]; rfl⟩
        · rintro ⟨x, hx, e⟩
          refine ⟨x, hx, ?_⟩
          cases hr : reader h.t h.wish x.g with
          | none =>
            rw [hr] at e
            have e : (-1 : Int) = (g : Nat) := e
            omega
          | some v =>
            rw [hr] at e
            have e : ((v : Nat) : Int) = (g : Nat) := e
            rw [Int.ofNat_inj.mp e]
            exact beq_self_eq_true _
      refine q_asgL (xs := vI (Vamvsd.idle h.t h.wish)) ?_ fun fo H3 nfo e3 hfo => ?_
      · rw [eidle, ← given_filter]
        refine el_lcL _ _ (ev_fld (ev_var rfl) hd2 T.cl_Desk T.n_Desk_wished (dk_wished _ _ _)) (sq_of DK2.wl) (by rw [vI_len]; omega) (fun _ => rfl) (fun j x H11 e11 hj => ?_) fun j x H11 e11 hj hf => ?_
        · obtain ⟨n, hn, rfl⟩ := vI_get hj
          rw [show h.wish.getD j 0 = n by rw [List.getD_eq_getElem?_getD, hn]; rfl]
          exact et_test (ev_op (ev_var rfl) (ev_var rfl) (ni_ints (e11 _ _ hrd2)))
        · obtain ⟨n, hn, rfl⟩ := vI_get hj
          rw [show h.wish.getD j 0 = n by rw [List.getD_eq_getElem?_getD, hn]; rfl]
          exact ev_var rfl
      have hil : (Vamvsd.idle h.t h.wish).length ≤ 16 := Nat.le_trans (List.length_filter_le _ _) bl
      refine s_retL (xs := ([.int ((Vamvsd.idle h.t h.wish).length : Nat)] ++ vI (Vamvsd.idle h.t h.wish)) ++ [.int ((h.t.asks.map fun x => x.k * costOf h.t h.wish x.g).sum : Nat)]) (el_cat (el_catLV (el_lst (ea_cons (ev_is (ev_len (ev_var rfl) (sq_of hfo)) (by rw [vI_len])) ea_nil) (by show (1 : Nat) ≤ 100000; decide)) (ev_var rfl) hfo (by rw [vI_len]; show 1 + _ ≤ 100000; omega)) (el_lst (ea_cons (ev_var rfl) ea_nil) (by show (1 : Nat) ≤ 100000; decide)) (by rw [List.length_append, vI_len]; show 1 + _ + 1 ≤ 100000; omega)) fun r H4 hr e4 h4 => k1 r H4 (FrN.ex ((e2.trans e3).trans e4)) (hT.ex ((e2.trans e3).trans e4)) ⟨g, z, wl, DK.ex ((e2.trans e3).trans e4)⟩ (h4.trans (congrArg (fun x => some (HO.lst x)) ?_))
      show _ = V.int _ :: (Vamvsd.nats (Vamvsd.idle h.t h.wish) ++ Vamvsd.nats [Vamvsa.total h.t h.wish]).map V.int
      rw [List.map_append, nats_vI, nats_vI]
      simp only [List.append_assoc, List.cons_append, List.nil_append]
      rfl
end
end BA

namespace BA
open PySem PySem.Spec PyProof.Rows L2 Evl LamX
open VamvsBase (Bytes)
open Vamvsa (columnsOf width sizeOf_ reader costOf)
open Vamvsd (parentNumber parentOf readOf oneCost buildCost lines Held planAnswer planOf run bestHelpers)
open VamvsdNeutral (encode)

theorem rg2 {m : Nat} (h : m ≤ 100000) : RgC 0 (m : Int) 2 ((m + 1) / 2) := by
  have e := PyProof.Rows.rangeSize_pos (len := (m : Int)) (c := 2) (by decide) (by omega)
  refine ⟨by decide, by decide, ?_, ?_⟩
  · unfold Builtin.Range.small
    rw [e, if_pos (by decide : (2 : Int) > 0)]
    unfold Builtin.Range.rangeFitsLong
    rw [Bool.and_eq_true, Bool.and_eq_true, Bool.and_eq_true, Bool.and_eq_true, Bool.or_eq_true]
    have h63 : (2 : Int) ^ 63 = 9223372036854775808 := by decide
    refine ⟨⟨⟨⟨?_, ?_⟩, ?_⟩, ?_⟩, .inr ?_⟩ <;> (rw [Bool.and_eq_true]; constructor <;> (rw [decide_eq_true_iff]; omega))
  · rw [e]
    omega
def PrL (H : Hp) (ys : List V) (ps : List (Int × Int)) : Prop := Paired (fun y p => ∃ q, y = V.ref q ∧ H q = some (.tup [.int p.1, .int p.2])) ys ps
section
variable {K : PySem.W.Frag} {σ : L2.St} {H H' : Hp} {ta tb te tl : TE} {x y z v : V} {D : Ends} {tu tw tz : TS} {tg : TG}
theorem elp_lcR3 {tA : TA} {j : Nat} {vs : List Nat} {hi : Int} {n : Nat} {ps : List (Int × Int)} (h : EvA tA σ H [.int 0, .int hi, .int 2]) (hr : RgC 0 hi 2 n) (hn : n ≤ 40000) (hps : ps.length = n) (hw : ∀ x, wipe ((wipe σ vs).set j (some x)) vs = wipe σ vs)
    (he : ∀ (i : Nat) (p : Int × Int) H1, Ex H H1 → ps[i]? = some p → EvU te ((wipe σ vs).set j (some (.int ((2 * i : Nat) : Int)))) H1 [.int p.1, .int p.2]) : EvLP (tLc (iRng3 tA) (gName j) tYes te vs) σ H (fun ys H2 => PrL H2 ys ps) := fun H0 e Q q => h H0 e _ fun H1 e1 => ⟨0, hi, 2, n, rfl, hr, fun Dl hD => by
  refine ⟨fun i m H' => m = n - i ∧ i ≤ n ∧ Ex H1 H' ∧ ∃ ys, H' Dl = some (.lst ys) ∧ PrL H' ys (ps.take i), ⟨_, rfl, Nat.zero_le _, Ex.new hD, [], upd_same, by rw [List.take_zero]; exact .nil⟩, ?_⟩
  rintro i m H' ⟨rfl, hil, p1, ys, p2, p3⟩
  by_cases hlt : i < n
  · refine .inr ⟨hlt, fun H2 => Ex H1 H2 ∧ ∃ ys, H2 Dl = some (.lst ys) ∧ PrL H2 ys (ps.take (i + 1)), fun H2 p => ⟨n - (i + 1), by omega, rfl, hlt, p⟩, fun x H2 y => ?_⟩
    obtain ⟨rfl, rfl⟩ := y
    obtain ⟨pr, hpr⟩ : ∃ pr, ps[i]? = some pr := ⟨_, List.getElem?_eq_getElem (by omega)⟩
    have hyl : ys.length = i := by
      have := prs_len p3
      rw [List.length_take] at this
      omega
    refine ⟨hw _, ?_⟩
    have hx : (0 : Int) + ((i : Nat) : Int) * 2 = ((2 * i : Nat) : Int) := by omega
    show te ((wipe σ vs).set j (some (.int ((0 : Int) + ((i : Nat) : Int) * 2)))) _ _
    rw [hx]
    refine he i pr H2 ((e.trans e1).trans p1) hpr H2 (Ex.refl _) _ fun r H3 hr e3 h3 => ⟨ys, e3 _ _ p2, sz_lt (by omega), Ex.mut (p1.trans e3) hD, ys ++ [.ref r], upd_same, ?_⟩
    have kp : ∀ {b : Addr} {ts : List V}, H3 b = some (.tup ts) → upd H3 Dl (.lst (ys ++ [.ref r])) b = some (.tup ts) := fun hb => by
      rw [upd_ne (ne_of hb (e3 _ _ p2) nofun)]
      exact hb
    rw [List.take_succ, hpr]
    exact prs_app (prs_imp (fun _ _ ⟨q, e, hq⟩ => ⟨q, e, kp (e3 _ _ hq)⟩) p3) (.cons ⟨r, rfl, kp h3⟩ .nil)
  · have e0 : i = n := by omega
    subst e0
    refine .inl ⟨Nat.le_refl _, q Dl ys H' (fresh_back e1 hD) (e1.trans p1) p2 ?_⟩
    rw [← hps, List.take_length] at p3
    exact p3⟩
/-- a comprehension over a list of pairs of numbers -/
theorem el_lc2 {a : Addr} {xs : List V} {ps : List (Int × Int)} {i j : Nat} {vs : List Nat} (f : Int × Int → V) (h : Ev tl σ H (.ref a)) (hx : SqL K H a xs) (hP : PrL H xs ps) (hz : xs.length ≤ 40000) (hw : ∀ x y, wipe (((wipe σ vs).set i (some x)).set j (some y)) vs = wipe σ vs)
    (he : ∀ (p : Int × Int) H1, Ex H H1 → p ∈ ps → Ev te (((wipe σ vs).set i (some (.int p.1))).set j (some (.int p.2))) H1 (f p)) :
    EvL (tLc (iList K tl) (gTup K 2 (gCons (gName i) (gCons (gName j) gNil))) tYes te vs) σ H (ps.map f) := fun H0 e Q q => h H0 e _ fun H1 e1 => ⟨a, rfl, ⟨xs, ex_l (e.trans e1) hx⟩, fun Dl hD =>
  lc_list (xs := xs) (fun k H' => Ex H1 H' ∧ k ≤ xs.length ∧ H' Dl = some (.lst ((ps.take k).map f))) ⟨Ex.new hD, Nat.zero_le _, upd_same⟩ (fun k H' _ p => ex_l ((e.trans e1).trans p.1) hx)
    (fun k x H' hk ⟨p1, hkl, p2⟩ => by
      obtain ⟨p, hp, r, rfl, hr⟩ := prs_at hP hk
      have hlt := (List.getElem?_eq_some_iff.mp hk).1
      have hpl := prs_len hP
      refine ⟨r, _, rfl, st_of (((e.trans e1).trans p1) _ _ hr), rfl, _, _, rfl, _, _, rfl, rfl, hw _ _, ?_⟩
      refine he p H' ((e.trans e1).trans p1) (List.mem_of_getElem? hp) H' (Ex.refl _) _ fun H3 e3 => ⟨_, e3 _ _ p2, sz_lt (by rw [List.length_map, List.length_take]; omega), Ex.mut (p1.trans e3) hD, hlt, ?_⟩
      rw [upd_same, List.take_succ, hp, List.map_append]
      rfl)
    (fun H' ⟨p1, _, p2⟩ => q Dl H' (fresh_back e1 hD) (e1.trans p1) (by
      rw [prs_len hP, List.take_length] at p2
      exact p2))⟩
theorem q_asgLP {R : List V → Hp → Prop} {i : Nat} (h : EvLP te σ H R) (k : ∀ p xs H1, H p = none → Ex H H1 → H1 p = some (.lst xs) → R xs H1 → tz D (σ.set i (some (.ref p))) H1) : tSeq (tAsg te (gName i)) tz D σ H := h H (Ex.refl _) _ fun p xs H1 hp e h1 hR => k p xs H1 hp e h1 hR
theorem q_asgN {C : Addr} {t : TA} {vs : List V} {sp : Sp} {i : Nat} (h : EvA t σ H vs) (hs : ∀ H1, Ex H H1 → ∀ x dx, H x = none → H1 x = some (.ins C dx []) → sp (.ref x :: vs) H1 (fun v H2 => v = .non ∧ tz D (σ.set i (some (.ref x))) H2) E0) : tSeq (tAsg (tGC C sp t) (gName i)) tz D σ H :=
  h H (Ex.refl _) _ fun H4 e4 x dxx hx hdx ne => by
    have eU : Ex H4 (upd (upd H4 dxx (.own x)) x (.ins C dxx [])) := Ex.mut (Ex.new hdx) hx
    exact hs _ (e4.trans eU) x dxx (fresh_back e4 hx) upd_same
end
section
variable {P : Program} {w : World} {K : PySem.W.Frag} {mg : Str → Option Value} {base : Heap} {a : Ad} {H H' : Hp} {σ : L2.St} {D : Ends} {tz : TS} {ta tb te : TE} {z p c tp : Addr}
theorem ok_check (T : Txt K mg a) : Good P w K mg base 6 a.f_check ["desk", "given"] (sp_deed K a tp (fun l => l.length ≤ 2000) .check) := by
  obtain ⟨fd, F⟩ := T.F_check
  refine ⟨⟨fd, F.okX sc_check (fun vs H Q E h => ?_) (fun cdv A outer s H vs Q E hr h => ⟨_, (pss_cons (ps_expr (pe_g (ok_refuse_if T) (hr.mono (by decide)) rfl T.m_refuse_if (E := fun _ => E) (pxt (takes_of rfl rfl rfl rfl)) (pa_cons (pe_cmpR op_eq (pe_op op_mod (pe_callB call_len_seq (by rfl) T.b_len (by decide +kernel) (pa_cons (pv 1) pa_nil)) pe_int) pe_int (nomark _)) (pa_cons (pe_gi rfl T.m_NO_PLAN) pa_nil))))
    (pss_cons (ps_setLc (i := 2) (own := [("at", 5)]) rfl sc_check.nd rfl rfl (sw_true rfl rfl rfl (by decide +kernel)) (pi_range3 rfl T.b_range (pa_cons pe_int (pa_cons (pe_callB call_len_seq (by rfl) T.b_len (by decide +kernel) (pa_cons (pv 1) pa_nil)) (pa_cons pe_int pa_nil)))) (blkOk_by (own := [("at", 5)]) (N := ["desk", "given", "steps", "played", "is_right", "at", "grouping", "source"]) (sc := defScope s_check) (by decide +kernel)) (fun _ _ _ _ _ => (pg_name (i := 5) sc_check.nd rfl (Or.inl rfl))) (fun _ _ _ _ _ => pts_nil) (fun _ _ _ _ _ => (pe_tup (pa_cons (pe_ix (ix_listK (K := K)) (pv 1) (pv 5) (fun _ _ => rfl)) (pa_cons (pe_ix (ix_listK (K := K)) (pv 1) (pe_op op_add (pv 5) pe_int) (fun _ _ => rfl)) pa_nil)))))
    (pss_cons (ps_expr (pe_g (ok_refuse_if T) (hr.mono (by decide)) rfl T.m_refuse_if (E := fun _ => E) (pxt (takes_of rfl rfl rfl rfl)) (pa_cons (pe_not (pe_callB (cr_all rfl) (by rfl) T.b_all (by decide +kernel) (pa_cons (pe_lc (own := [("grouping", 6), ("source", 7)]) rfl sc_check.nd (pi_list (pv 2)) (blkOk_by (own := [("grouping", 6), ("source", 7)]) (N := ["desk", "given", "steps", "played", "is_right", "at", "grouping", "source"]) (sc := defScope s_check) (by decide +kernel)) (fun _ _ _ _ _ => (pg_tupK (K := K) (n := 2) rfl (pgs_cons (pg_name (i := 6) sc_check.nd rfl (Or.inl rfl)) (pgs_cons (pg_name (i := 7) sc_check.nd rfl (Or.inl rfl)) pgs_nil)))) (fun _ _ _ _ _ => pts_nil) (fun _ _ _ _ _ => (pe_g (ok_is_step T) (hr.mono (by decide)) rfl T.m_is_step (E := fun _ => E0) px0 (pa_cons (pv 0) (pa_cons (pv 6) (pa_cons (pv 7) pa_nil)))))) pa_nil))) (pa_cons (pe_gi rfl T.m_NO_PLAN) pa_nil))))
    (pss_cons (ps_set (i := 3) sc_check.nd rfl (Or.inl rfl) (pe_gc (ok_Played_init T) T.mk_Played (hr.mono (by decide)) rfl T.m_Played (pa_cons (pe_fld (pv 0) rfl) (pa_cons (pv 2) pa_nil))))
    (pss_cons (ps_set (i := 4) sc_check.nd rfl (Or.inl rfl) (pe_and (pe_cmpR op_eq (pe_fld (pv 3) rfl) (pe_callB call_len_seq (by rfl) T.b_len (by decide +kernel) (pa_cons (pv 2) pa_nil)) (nomark _)) (pe_one (pe_cmpR (op_eqD hr.units) (pe_callB cr_sortedI (by rfl) T.b_sorted (by decide +kernel) (pa_cons (pe_fld (pv 3) rfl) pa_nil)) (pe_fld (pv 0) rfl) (nomark _)))))
    (pss_one (ps_ret (pe_lst (pa_cons (pe_callTy call_int1 (by rfl) T.b_int (by decide +kernel) (pa_cons (pv 4) pa_nil)) (pa_cons (pe_fld (pv 3) rfl) (pa_cons (pe_fld (pv 3) rfl) (pa_cons (pe_fld (pv 3) rfl) (pa_cons (pe_gm (ok_Sizes_total T) (pe_fld (pv 0) rfl) T.cl_Sizes T.me_Sizes_total (hr.mono (by decide)) (E := fun _ => E0) px0 (pa_cons (pe_fld (pv 3) rfl) pa_nil)) pa_nil))))))))))))), ?_⟩), F.binds fun _ _ _ _ _ _ us hl => match us, hl with | [_, _], _ => rfl⟩, T.k_check⟩
  · obtain ⟨d, p, z, wl, g, h, l, rfl, _⟩ := h
    rfl
  · obtain ⟨d, p, z, wl, g, h, l, rfl, DK, hp, hT, hl, k1, k2⟩ := h
    have wf := DK.sz.wf
    have hw1 : 1 ≤ 2 ^ width h.t := Nat.one_le_two_pow
    obtain ⟨st1, st2⟩ := steps_twos (2 ^ width h.t) hw1 (l.length + 1) l (Nat.lt_succ_self _)
    have estep : Vamvsd.step (some h) (.check l) = (some h, match Vamvsd.stepsOf (2 ^ width h.t) (l.length + 1) l with
      | none => VamvsBase.one (-4)
      | some p => let x := run h.t p; ⟨if x.2 = p.length ∧ Vamvsd.same x.1.built h.wish = true then 1 else 0, Vamvsd.nats [x.2, x.1.cost, x.1.peak, lines h.t x.1.built]⟩) := rfl
    refine q_dropG (ea_cons (ev_op (ev_op (ev_len (ev_var rfl) hp) ev_c (rv_I (by decide))) ev_c (rv_eq rfl)) (ea_cons ev_c ea_nil)) fun H1 e1 => ⟨_, -4, rfl, fun hb => ?_, fun hb H2 e2 => ?_⟩
    · have ho : l.length % 2 = 1 := by
        have := V.int.inj (of_decide_eq_true hb)
        rw [List.length_map] at this
        omega
      rw [st1 ho] at estep
      exact (k2 _ estep).go e1
    have he : l.length % 2 = 0 := by
      have := of_decide_eq_false hb
      rw [List.length_map] at this
      have h3 : ¬ ((l.length : Int) % 2 = 1) := fun z => this (congrArg V.int z)
      omega
    have e12 := e1.trans e2
    have DK2 := DK.ex e12
    have hp2 := ex_l e12 hp
    have htl := twos_len l he
    have hn : (l.length + 1) / 2 = l.length / 2 := by omega
    refine q_asgLP (elp_lcR3 (n := l.length / 2) (ps := twos l) (hi := (l.length : Int)) (ea_cons ev_c (ea_cons (ev_is (ev_len (ev_var rfl) hp2) (by rw [List.length_map])) (ea_cons ev_c ea_nil))) (by rw [← hn]; exact rg2 (by omega)) (by omega) htl (fun _ => rfl) fun i pr H3 e3 hpr => ?_) fun st xs H3 nst e3 hst hPL => ?_
    · have hi : i < l.length / 2 := by rw [← htl]; exact (List.getElem?_eq_some_iff.mp hpr).1
      have := twos_get l i he hi
      rw [hpr] at this
      cases this
      have g1 : atI (l.map V.int) ((2 * i : Nat) : Int) = some (.int (l.getD (2 * i) 0)) := atI_nat (by rw [List.getElem?_map, List.getD_eq_getElem?_getD, List.getElem?_eq_getElem (by omega : 2 * i < l.length)]; rfl)
      have g2 : atI (l.map V.int) (((2 * i : Nat) : Int) + 1) = some (.int (l.getD (2 * i + 1) 0)) := by
        show atI (l.map V.int) ((2 * i + 1 : Nat) : Int) = _
        exact atI_nat (by rw [List.getElem?_map, List.getD_eq_getElem?_getD, List.getElem?_eq_getElem (by omega : 2 * i + 1 < l.length)]; rfl)
      exact eu_tup (ea_cons (ev_op (ev_var rfl) (ev_var rfl) (rv_ixL (ex_l e3 hp2) g1)) (ea_cons (ev_op (ev_var rfl) (ev_op (ev_var rfl) ev_c rv_I0) (rv_ixL (ex_l e3 hp2) g2)) ea_nil)) (by show (2 : Nat) ≤ 100000; decide)
    have e123 := e12.trans e3
    have DK3 := DK.ex e123
    have hxl : xs.length = l.length / 2 := by rw [prs_len hPL]; exact htl
    have eall : ((twos l).map fun pr => isG h.t pr.1 && (decide (pr.2 ∈ [(-1 : Int), -2]) || isG h.t pr.2)).all id = (twos l).all (pairOk ((2 ^ width h.t : Nat) : Int)) := by
      rw [List.all_map]
      rfl
    refine q_dropG (ea_cons (ev_notV (ev_is (ev_all (bs := (twos l).map fun pr => isG h.t pr.1 && (decide (pr.2 ∈ [(-1 : Int), -2]) || isG h.t pr.2)) (by
      rw [List.map_map]
      exact el_lc2 _ (ev_var rfl) (sq_of hst) hPL (by omega) (fun _ _ => rfl) fun pr H4 e4 hpr => ev_g (ea_cons (ev_var rfl) (ea_cons (ev_var rfl) (ea_cons (ev_var rfl) ea_nil))) fun H5 e5 Q q E => ⟨d, z, wl, g, h, pr.1, pr.2, rfl, DK3.ex (e4.trans e5), q⟩)) (by rw [eall]))) (ea_cons ev_c ea_nil)) fun H4 e4 => ⟨!(twos l).all (pairOk ((2 ^ width h.t : Nat) : Int)), -4, rfl, fun hb4 => ?_, fun hb4 H5 e5 => ?_⟩
    · have hf : ¬ (twos l).all (pairOk ((2 ^ width h.t : Nat) : Int)) = true := by
        intro z
        rw [z] at hb4
        cases hb4
      have := st2 he
      rw [if_neg hf] at this
      rw [this] at estep
      exact (k2 _ estep).go (e123.trans e4)
    have ht : (twos l).all (pairOk ((2 ^ width h.t : Nat) : Int)) = true := by simpa using hb4
    have hso := st2 he
    rw [if_pos ht] at hso
    rw [hso] at estep
    have estep2 : Vamvsd.step (some h) (.check l) = (some h, ⟨if (run h.t ((twos l).map mkStep)).2 = ((twos l).map mkStep).length ∧ Vamvsd.same (run h.t ((twos l).map mkStep)).1.built h.wish = true then 1 else 0, Vamvsd.nats [(run h.t ((twos l).map mkStep)).2, (run h.t ((twos l).map mkStep)).1.cost, (run h.t ((twos l).map mkStep)).1.peak, lines h.t (run h.t ((twos l).map mkStep)).1.built]⟩) := estep
    have k1 : ∀ r H', FrN [d] H H' → TT_ tp H' → DkO a H' d (Vamvsd.step (some h) (.check l)).1 → H' r = some (.lst ((encode (Vamvsd.step (some h) (.check l)).2).map V.int)) → Q (.ref r) H' := k1
    rw [estep2] at k1
    have hallok := List.all_eq_true.mp ht
    have e45 := e4.trans e5
    have DK5 := DK3.ex e45
    obtain ⟨dx, hd⟩ := DK5.dk
    -- the steps as they lie
    obtain ⟨qs, rfl, hSt⟩ : ∃ qs, xs = refs qs ∧ StL H3 qs ((twos l).map mkStep) := by
      have key : ∀ {xs : List V} {ps : List (Int × Int)}, (∀ p ∈ ps, pairOk ((2 ^ width h.t : Nat) : Int) p = true) → PrL H3 xs ps → ∃ qs, xs = refs qs ∧ StL H3 qs (ps.map mkStep) := by
        intro xs ps hps hP
        induction hP with
        | nil => exact ⟨[], rfl, .nil⟩
        | cons hh _ ih =>
          obtain ⟨q, rfl, hq⟩ := hh
          obtain ⟨qs, rfl, hs⟩ := ih fun p hp => hps p (List.mem_cons_of_mem _ hp)
          obtain ⟨_, m1, m2⟩ := mk_ok (hps _ List.mem_cons_self)
          refine ⟨q :: qs, rfl, .cons ?_ hs⟩
          rw [m1, m2]
          exact hq
      exact key hallok hPL
    have hoks : ∀ s ∈ (twos l).map mkStep, stepOk h.t s := fun s hs => by
      obtain ⟨p, hp, rfl⟩ := List.mem_map.mp hs
      exact (mk_ok (hallok p hp)).1
    have hlen : (refs qs).length = ((twos l).map mkStep).length := by rw [refs_len]; exact prs_len hSt
    generalize (twos l).map mkStep = sts at hSt hoks k1 hlen
    refine q_asgN (ea_cons (ev_fld (ev_var rfl) hd T.cl_Desk T.n_Desk_sizes (dk_sizes _ _ _)) (ea_cons (ev_var rfl) ea_nil)) fun H6 e6 x dxx nx hx => ⟨x, dxx, z, st, qs, h.t, sts, rfl, hx, DK5.sz.ex e6, sq_of ((e45.trans e6) _ _ hst), hSt.ex (e45.trans e6), hoks, fun H7 pl npl PL f7 => ⟨rfl, ?_⟩⟩
    have e57 : Ex H5 H7 := FrL.new (l := [x]) ((FrL.ex e6).trans f7) fun b hb => by rw [List.mem_singleton.mp hb]; exact nx
    have DK7 := DK5.ex e57
    obtain ⟨dx7, hd7⟩ := DK7.dk
    obtain ⟨⟨dz, lz, z1, z2⟩, _⟩ := id DK7.sz
    have h7 := (e45.trans e57) _ _ hst
    obtain ⟨dp, hpl⟩ := PL.at_
    have hli := PL.li
    have hok := PL.ok
    have hbd := siteBd wf hok
    generalize run h.t sts = rs at PL hpl hli hok hbd k1
    have hthere : ∀ {σ : L2.St} {H8 : Hp}, Ex H7 H8 → σ[3]? = some (some (.ref x)) → Ev (tFld K (tVar 3) "there") σ H8 (.ref pl) := fun e8 h0 => ev_fld (ev_var h0) (e8 _ _ hpl) T.cl_Played T.n_Played_there (plF_there _ _ _ _ _)
    have hsrt : decide (((srt rs.1.built).map fun n : Nat => (n : Int)) = h.wish.map fun n : Nat => (n : Int)) = Vamvsd.same rs.1.built h.wish := by
      rw [← same_iff hok.nd hok.bd DK.ws]
      rw [Bool.eq_iff_iff, decide_eq_true_iff, decide_eq_true_iff]
      exact ⟨fun e => (List.map_inj_right (fun a b hab => Int.ofNat_inj.mp hab)).mp e, fun e => by rw [e]⟩
    refine q_asg (v := .bl (decide (V.int (rs.2 : Nat) = V.int (sts.length : Nat)) && Vamvsd.same rs.1.built h.wish)) (ev_andV (ev_op (ev_fld (ev_var rfl) hpl T.cl_Played T.n_Played_steps (plF_steps _ _ _ _ _)) (ev_is (ev_len (ev_var rfl) (sq_of h7)) (by rw [hlen])) (rv_eq rfl)) fun _ => ev_is (ev_opL1 (el_sorted (hthere (Ex.refl _) rfl) (sq_of hli)) (fun H8 e8 => ev_fld (ev_var rfl) (e8 _ _ hd7) T.cl_Desk T.n_Desk_wished (dk_wished _ _ _)) fun r H8 hr e8 => rv_eqLL (l := (srt rs.1.built).map fun n : Nat => (n : Int)) (m := h.wish.map fun n : Nat => (n : Int)) (by rw [← vI_ints]; exact sq_of hr) (by rw [← vI_ints]; exact sq_of (e8 _ _ DK7.wl))) (by rw [hsrt])) fun H8 e8 => ?_
    have e08 := (e123.trans e45).trans (e57.trans e8)
    refine s_retL (xs := [.int (if (decide (V.int (rs.2 : Nat) = V.int (sts.length : Nat)) && Vamvsd.same rs.1.built h.wish) = true then 1 else 0), .int (rs.2 : Nat), .int (rs.1.cost : Nat), .int (rs.1.peak : Nat), .int (lines h.t rs.1.built : Nat)])
      (el_lst (ea_cons (ev_cb (ea_cons (ev_var rfl) ea_nil) fun H9 e9 Q q => .inr ⟨_, rfl, q H9 (Ex.refl _)⟩) (ea_cons (ev_fld (ev_var rfl) (e8 _ _ hpl) T.cl_Played T.n_Played_steps (plF_steps _ _ _ _ _)) (ea_cons (ev_fld (ev_var rfl) (e8 _ _ hpl) T.cl_Played T.n_Played_cost (plF_cost _ _ _ _ _)) (ea_cons (ev_fld (ev_var rfl) (e8 _ _ hpl) T.cl_Played T.n_Played_most (plF_most _ _ _ _ _)) (ea_cons (ev_gm (ev_fld (ev_var rfl) (e8 _ _ hd7) T.cl_Desk T.n_Desk_sizes (dk_sizes _ _ _)) (e8 _ _ z1) (szF_none _ _ (by decide +kernel) (by decide +kernel)) (ea_cons (hthere e8 rfl) ea_nil) fun H9 e9 Q q E => ⟨z, pl, h.t, rs.1.built, rfl, DK7.sz.ex (e8.trans e9), sq_of ((e8.trans e9) _ _ hli), hbd, q⟩) ea_nil))))) (by show (5 : Nat) ≤ 100000; decide)) fun r H9 hr e9 h9 => k1 r H9 (FrN.ex (e08.trans e9)) (hT.ex (e08.trans e9)) ⟨g, z, wl, DK.ex (e08.trans e9)⟩ (h9.trans (congrArg (fun x => some (HO.lst x)) ?_))
    have e1' : (if (decide (V.int (rs.2 : Nat) = V.int (sts.length : Nat)) && Vamvsd.same rs.1.built h.wish) = true then (1 : Int) else 0) = if rs.2 = sts.length ∧ Vamvsd.same rs.1.built h.wish = true then 1 else 0 := by
      by_cases hc : rs.2 = sts.length ∧ Vamvsd.same rs.1.built h.wish = true
      · rw [if_pos hc, if_pos (by rw [hc.1, hc.2, Bool.and_true, decide_eq_true_iff])]
      · rw [if_neg hc, if_neg (fun z => hc (by
          rw [Bool.and_eq_true, decide_eq_true_iff] at z
          have z1 := V.int.inj z.1
          exact ⟨by omega, z.2⟩))]
    rw [e1']
    rfl
end
end BA

namespace BA
open PySem PySem.Spec PyProof.Rows L2 Evl LamX
open VamvsBase (Bytes)
open Vamvsa (columnsOf width sizeOf_ reader costOf)
open Vamvsd (Held)
open VamvsdNeutral (encode bytesOf)

def sp_load (K : PySem.W.Frag) (a : Ad) (tp : Addr) : Sp := fun vs H Q E => ∃ (d p : Addr) (o : Vamvsd.Obj) (l : List Int), vs = [.ref d, .ref p] ∧ DkO a H d o ∧ SqL K H p (l.map V.int) ∧ TT_ tp H ∧ (∀ b ∈ l, 0 ≤ b ∧ b < 256) ∧ l.length ≤ 8192 ∧
  (∀ r H', FrN [d] H H' → TT_ tp H' → DkO a H' d (Vamvsd.step o (.load (bytesOf l))).1 → H' r = some (.lst ((encode (Vamvsd.step o (.load (bytesOf l))).2).map V.int)) → Q (.ref r) H')
theorem bv_bytes {l : List Int} (h : ∀ b ∈ l, 0 ≤ b ∧ b < 256) : bv (bytesOf l) = l.map V.int := by
  unfold bytesOf
  show (l.map fun b : Int => UInt8.ofNat b.toNat).map (fun c : UInt8 => V.int (c.toNat : Nat)) = _
  rw [List.map_map]
  refine List.map_congr_left fun b hb => ?_
  have := h b hb
  show V.int (((UInt8.ofNat b.toNat).toNat : Nat) : Int) = V.int b
  have e : (UInt8.ofNat b.toNat).toNat = b.toNat := by
    rw [UInt8.toNat_ofNat']
    omega
  rw [e, Int.toNat_of_nonneg this.1]
section
variable {X : Cx} {k : Nat} {i : Nat} {x : Str} {p pos : Pos} {e : Expr} {es : List Expr} {t : TA} {E : L2.St → XK}
def tGV (i : Nat) (R : Addr → Sp → Prop) (E : L2.St → XK) (t : TA) : TE := fun σ H Q => ∃ f sp, σ[i]? = some (some (.ref f)) ∧ R f sp ∧ t σ H fun vs H1 => sp vs H1 Q (E σ)
theorem pe_gv (R : Addr → Sp → Prop) (hG : ∀ f sp, R f sp → ∃ j ps, j ≤ k ∧ Good X.prog X.w X.K X.mg X.base j f ps sp) (hr : Room k X.A) (hx : ∀ σ, PassesAt (L2.CX X.prog X.w) X σ (E σ)) (hN : X.N[i]? = some x) (hv : Vis X.env.scope x) (ha : PA X (e :: es) t)
    (hd : (x == ("__debug__" : Str)) = false := by decide) (hcd : (x == ("__classdict__" : Str)) = false := by decide)
    (he : starEach (e :: es) X.env = (false, eval e X.env) :: starEach es X.env := by rfl) (hpl : (backTo pos (starEach es X.env)).any (·.1) = false := by rfl) :
    PE X (.Call (.Name x p) (e :: es) [] pos) (tGV i R E t) := by
  refine ⟨fun pins s σ H Q I h => ?_⟩
  obtain ⟨f, sp, hs, hR, ht⟩ := h
  obtain ⟨j, ps, hj, G⟩ := hG f sp hR
  obtain ⟨fd, F, hb⟩ := G.ex
  refine wpAny_Call_Name_kw (thn ((pe_var (pos := p) hN hv hd hcd).run pins s σ H (fun v H1 => v = .ref f ∧ H1 = H) I ⟨.ref f, hs, rfl, rfl⟩) fun u s1 ⟨v, H1, I1, r1, q1⟩ => ?_)
  obtain ⟨ev, eH⟩ := q1
  subst ev
  rw [eH] at I1
  obtain rfl : u = Value.ref f := r1
  refine PySem.W.callWith_K (first := []) (h₀ := X.base) I.ok.mod.kin G.kp (thn (ha.run pos pins s1 σ H _ I1 ht) fun us s2 ⟨vs, H2, I2, r, q⟩ => ⟨I2.kIn, ?_⟩) he hpl
  show wpAny _ _ (call (.ref f) us) _ _ _
  exact run_fnS F (hr.mono hj) hb (hx σ) I2 r q
end
theorem TT_.frl {tp d C dx : Addr} {fs : List (Str × V)} {H H' : Hp} (hT : TT_ tp H) (hd : H d = some (.ins C dx fs)) (f : FrL [d] H H') : TT_ tp H' := fun q hq => by
  obtain ⟨ps, t1, t2, t3⟩ := hT q hq
  refine ⟨ps, f.at1 t1 (ne_of t1 hd nofun), t2, fun pos cv hcv => ?_⟩
  obtain ⟨c0, u1, u2⟩ := t3 pos cv hcv
  exact ⟨c0, u1, f.at1 u2 (ne_of u2 hd (by unfold CodeO; nofun))⟩
theorem TabAt.frD {a : Ad} {H H' : Hp} {d C dx wl : Addr} {tv sv : V} {g : TG_} {t : Vamvsa.Table} (x : TabAt a.c_Table H g t) (hd : H d = some (.ins C dx (dkF tv sv wl))) (f : FrL [d] H H') : TabAt a.c_Table H' g t := by
  obtain ⟨⟨d1, h1⟩, h2, h3, h4, h5, h6, h7⟩ := x
  have n1 : g.tb ≠ d := ne_of h1 hd (by
    intro w
    injection w with _ _ w
    injection w with w _
    injection w with w _
    exact absurd w (by decide +kernel))
  have nl : ∀ {b : Addr} {xs : List V}, H b = some (.lst xs) → b ≠ d := fun hb => ne_of hb hd nofun
  have nt : ∀ {b : Addr} {xs : List V}, H b = some (.tup xs) → b ≠ d := fun hb => ne_of hb hd nofun
  exact ⟨⟨d1, f.at1 h1 n1⟩, f.at1 h2 (nl h2), f.at1 h3 (nl h3), f.at1 h4 (nl h4), prs_imp (fun _ _ q => f.at1 q (nt q)) h5, prs_imp (fun _ _ ⟨v, q1, q2⟩ => ⟨v, f.at1 q1 (nt q1), f.at1 q2 (nt q2)⟩) h6, prs_imp (fun _ _ q => f.at1 q (nt q)) h7⟩
section
variable {K : PySem.W.Frag} {σ : L2.St} {H H' : Hp} {D : Ends} {tz : TS} {sp : Sp} {t : TA} {vs : List V} {v : V}
theorem q_fldC {C : Addr} {ta : TE} {f : Str} (ha : EvA t σ H vs) (h : ∀ H1, Ex H H1 → ∀ x dx, H x = none → H1 x = some (.ins C dx []) → sp (.ref x :: vs) H1 (fun v H2 => v = .non ∧ (ta σ H2 fun y H3 => ∃ p C' dx' fs, y = V.ref p ∧ H3 p = some (.ins C' dx' fs) ∧ Cls K C' ∧ NoAttr K C' f ∧ fs.length < 1000 ∧ tz D σ (upd H3 p (.ins C' dx' (putF f (.ref x) fs))))) E0) :
    tSeq (sFld K ta (tGC C sp t) f) tz D σ H := ha H (Ex.refl _) _ fun H4 e4 x dxx hx hdx ne => by
  have eU : Ex H4 (upd (upd H4 dxx (.own x)) x (.ins C dxx [])) := Ex.mut (Ex.new hdx) hx
  exact h _ (e4.trans eU) x dxx (fresh_back e4 hx) upd_same
theorem q_tryG {c : Value} {i j : Nat} {ts : Addr → Value → Option Addr → TS} (ha : EvA t σ H vs) (h : ∀ H1, Ex H H1 → sp vs H1 (fun v H2 => tz D (σ.set j (some v)) H2) (WE (wAs K c i ts (fun _ _ _ _ => False) { D with nx := tz D }) σ)) :
    tSeq (fun D σ H => tAsg (tG sp (WE (wAs K c i ts (fun _ _ _ _ => False) D)) t) (gName j) D σ H) tz D σ H := ha H (Ex.refl _) _ fun H1 e1 => h H1 e1
theorem ev_xf {C av dd : Addr} {f : Str} {fs : List (Str × V)} {i : Nat} (h0 : σ[i]? = some (some (.ref av))) (hd : H dd = some (.xd fs)) (hl : fs.lookup f = some v) : Ev (tXf C f av (.ref C) (some dd) (tVar i)) σ H v := fun H1 e Q q =>
  ⟨.ref av, h0, rfl, rfl, dd, fs, v, rfl, e _ _ hd, hl, q H1 (Ex.refl _)⟩
end
section
variable {P : Program} {w : World} {K : PySem.W.Frag} {mg : Str → Option Value} {base : Heap} {a : Ad} {H H' : Hp} {σ : L2.St} {D : Ends} {tz : TS} {ta tb te : TE} {z p c tp : Addr}
theorem ok_load (T : Txt K mg a) : Good P w K mg base 8 a.f_load ["desk", "given"] (sp_load K a tp) := by
  obtain ⟨fd, F⟩ := T.F_load
  refine ⟨⟨fd, F.okX sc_load (fun vs H Q E h => ?_) (fun cdv A outer s H vs Q E hr h => ⟨_, (pss_cons (ps_try_as (i := 3) (Wout := fun _ _ _ _ => False) rfl rfl sc_load.nd rfl rfl ⟨rfl, by decide, Or.inl T.x_Fault.g⟩ L2.takes0 (fun W pn xe tk _ => pss_one (ps_set (i := 2) sc_load.nd rfl (Or.inl rfl) (pe_g (ok_read_table T) (hr.mono (by decide)) rfl T.m_read_table (E := WE W) (fun σ => passAt tk σ) (pa_cons (pv 1) pa_nil)))) (fun av oe cls dd pn hz hf => pss_one (ps_ret (pe_lst (pa_cons pe_int (pa_cons (pe_xf T.x_Fault.c T.x_Fault.n_code hz hf (pv 3)) (pa_cons (pe_xf T.x_Fault.c T.x_Fault.n_place hz hf (pv 3)) pa_nil)))))))
    (pss_cons (ps_fld (pv 0) (pv 2) rfl)
    (pss_cons (ps_fld (pv 0) (pe_gc (ok_Sizes_init T) T.mk_Sizes (hr.mono (by decide)) rfl T.m_Sizes (pa_cons (pv 2) pa_nil)) rfl)
    (pss_cons (ps_fld (pv 0) (pe_lst pa_nil) rfl)
    (pss_one (ps_ret (pe_lst (pa_cons pe_int (pa_cons (pe_callB call_len_seq (by rfl) T.b_len (by decide +kernel) (pa_cons (pe_fld (pv 2) rfl) pa_nil)) (pa_cons (pe_callB call_len_seq (by rfl) T.b_len (by decide +kernel) (pa_cons (pe_fld (pv 2) rfl) pa_nil)) (pa_cons (pe_callB call_len_seq (by rfl) T.b_len (by decide +kernel) (pa_cons (pe_fld (pv 2) rfl) pa_nil)) pa_nil))))))))))), ?_⟩), F.binds fun _ _ _ _ _ _ us hl => match us, hl with | [_, _], _ => rfl⟩, T.k_load⟩
  · obtain ⟨d, p, o, l, rfl, _⟩ := h
    rfl
  · obtain ⟨d, p, o, l, rfl, DO, hp, hT, hby, hl, k⟩ := h
    have hbv := bv_bytes hby
    have hbl : (bytesOf l).length ≤ 9000 := by
      unfold bytesOf
      rw [List.length_map]
      omega
    have estep : Vamvsd.step o (.load (bytesOf l)) = (match Vamvsa.read (bytesOf l) with
      | .ok t => (some ⟨t, []⟩, ⟨1, Vamvsd.nats [width t, t.rows.length, t.asks.length]⟩)
      | .error f => (o, VamvsBase.faulty f)) := by cases o <;> rfl
    refine q_tryG (ea_cons (ev_var rfl) ea_nil) fun H1 e1 => ⟨p, bytesOf l, rfl, by rw [hbv]; exact ex_l e1 hp, hbl, fun f hf => ?_, fun t' ht g H2 e2 TB => ?_⟩
    · rw [hf] at estep
      rw [estep] at k
      refine fun xd H2 e2 hxd => ⟨true, T.x_Fault.c.te, fun _ av hav => ?_, fun z => nomatch z⟩
      have e12 := e1.trans e2
      refine s_retL (xs := [.int 0, .int (f.code : Nat), .int (f.place : Nat)]) (el_lst (ea_cons ev_c (ea_cons (ev_xf rfl hxd ((lk_past (by decide +kernel)).trans lk_here)) (ea_cons (ev_xf rfl hxd lk_here) ea_nil))) (by show (3 : Nat) ≤ 100000; decide)) fun r H3 hr e3 h3 => k r H3 (FrN.ex (e12.trans e3)) (hT.ex (e12.trans e3)) ?_ h3
      cases o with
      | none =>
        obtain ⟨dx, wl, h1, h2⟩ := DO
        exact ⟨dx, wl, (e12.trans e3) _ _ h1, (e12.trans e3) _ _ h2⟩
      | some h =>
        obtain ⟨g, z, wl, DK⟩ := DO
        exact ⟨g, z, wl, DK.ex (e12.trans e3)⟩
    · rw [ht] at estep
      rw [estep] at k
      have wf := read_wf ht
      have e12 := e1.trans e2
      obtain ⟨dx, tv, sv, wl, hd⟩ : ∃ dx tv sv wl, H d = some (.ins a.c_Desk dx (dkF tv sv wl)) := by
        cases o with
        | none =>
          obtain ⟨dx, wl, h1, h2⟩ := DO
          exact ⟨dx, _, _, wl, h1⟩
        | some h =>
          obtain ⟨g, z, wl, DK⟩ := DO
          obtain ⟨dx, h1⟩ := DK.dk
          exact ⟨dx, _, _, wl, h1⟩
      have hd2 := e12 _ _ hd
      refine q_fld (ev_var rfl) (ev_var rfl) hd2 T.cl_Desk T.n_Desk_table (by show (3 : Nat) ≤ 900; decide) fun H3 e3 => ?_
      rw [dk_ptable]
      have f3 : FrL [d] H (upd H3 d (.ins a.c_Desk dx (dkF (.ref g.tb) sv wl))) := (FrL.ex (e12.trans e3)).trans (FrL.up (by simp))
      have TB3 := (TB.ex e3).frD (e3 _ _ hd2) (FrL.up (p := d) (o := .ins a.c_Desk dx (dkF (.ref g.tb) sv wl)) (by simp))
      have hd3 : upd H3 d (.ins a.c_Desk dx (dkF (.ref g.tb) sv wl)) d = some (.ins a.c_Desk dx (dkF (.ref g.tb) sv wl)) := upd_same
      generalize upd H3 d (.ins a.c_Desk dx (dkF (.ref g.tb) sv wl)) = H4 at f3 TB3 hd3
      refine q_fldC (ea_cons (ev_var rfl) ea_nil) fun H5 e5 x dxx nx hx => ⟨x, dxx, g, t', rfl, hx, TB3.ex e5, wf, fun H6 lz nl h6 hl6 f6 => ⟨rfl, ?_⟩⟩
      have e46 : Ex H4 H6 := FrL.new (l := [x]) ((FrL.ex e5).trans f6) fun b hb => by rw [List.mem_singleton.mp hb]; exact nx
      have hd6 := e46 _ _ hd3
      refine ⟨.ref d, rfl, d, _, dx, _, rfl, hd6, T.cl_Desk, T.n_Desk_sizes, (by show (3 : Nat) < 1000; decide), ?_⟩
      rw [dk_psizes]
      have nxd : x ≠ d := (ne_of_none hd3 nx).symm
      have hz7 : upd H6 d (.ins a.c_Desk dx (dkF (.ref g.tb) (.ref x) wl)) x = some (.ins a.c_Sizes dxx (szF t'.rows.length lz)) := by rw [upd_ne nxd]; exact h6
      have hl7 : upd H6 d (.ins a.c_Desk dx (dkF (.ref g.tb) (.ref x) wl)) lz = some (.lst (vI (sizesL t'))) := by rw [upd_ne (ne_of hl6 hd6 nofun)]; exact hl6
      have f7 : FrL [d] H (upd H6 d (.ins a.c_Desk dx (dkF (.ref g.tb) (.ref x) wl))) := (f3.trans (FrL.ex e46)).trans (FrL.up (by simp))
      have TB7 := (TB3.ex e46).frD hd6 (FrL.up (p := d) (o := .ins a.c_Desk dx (dkF (.ref g.tb) (.ref x) wl)) (by simp))
      have hd7 : upd H6 d (.ins a.c_Desk dx (dkF (.ref g.tb) (.ref x) wl)) d = some (.ins a.c_Desk dx (dkF (.ref g.tb) (.ref x) wl)) := upd_same
      generalize upd H6 d (.ins a.c_Desk dx (dkF (.ref g.tb) (.ref x) wl)) = H7 at hz7 hl7 f7 TB7 hd7
      refine q_fldL (xs := []) (el_lst ea_nil (by decide)) (ev_var rfl) hd7 T.cl_Desk T.n_Desk_wished (by show (3 : Nat) ≤ 900; decide) fun wl2 H8 nwl e8 hwl => ?_
      rw [dk_pwished]
      have hd8 := e8 _ _ hd7
      have hz9 : upd H8 d (.ins a.c_Desk dx (dkF (.ref g.tb) (.ref x) wl2)) x = some (.ins a.c_Sizes dxx (szF t'.rows.length lz)) := by rw [upd_ne nxd]; exact e8 _ _ hz7
      have hl9 : upd H8 d (.ins a.c_Desk dx (dkF (.ref g.tb) (.ref x) wl2)) lz = some (.lst (vI (sizesL t'))) := by rw [upd_ne (ne_of (e8 _ _ hl7) hd8 nofun)]; exact e8 _ _ hl7
      have hw9 : upd H8 d (.ins a.c_Desk dx (dkF (.ref g.tb) (.ref x) wl2)) wl2 = some (.lst []) := by rw [upd_ne (ne_of hwl hd8 nofun)]; exact hwl
      have f9 : FrL [d] H (upd H8 d (.ins a.c_Desk dx (dkF (.ref g.tb) (.ref x) wl2))) := (f7.trans (FrL.ex e8)).trans (FrL.up (by simp))
      have TB9 := (TB7.ex e8).frD hd8 (FrL.up (p := d) (o := .ins a.c_Desk dx (dkF (.ref g.tb) (.ref x) wl2)) (by simp))
      have hd9 : upd H8 d (.ins a.c_Desk dx (dkF (.ref g.tb) (.ref x) wl2)) d = some (.ins a.c_Desk dx (dkF (.ref g.tb) (.ref x) wl2)) := upd_same
      generalize upd H8 d (.ins a.c_Desk dx (dkF (.ref g.tb) (.ref x) wl2)) = H9 at hz9 hl9 hw9 f9 TB9 hd9
      have DK9 : DkAt a H9 d g x wl2 ⟨t', []⟩ := ⟨⟨dx, hd9⟩, TB9, ⟨⟨dxx, lz, hz9, hl9⟩, wf⟩, hw9, List.filter_eq_nil_iff.mpr fun g _ => by simp⟩
      obtain ⟨dt, htb⟩ := TB9.tb
      have c1 : (refs g.ns).length = t'.cols.length := by rw [refs_len]; exact prs_len TB9.ns
      have c2 : (refs g.rs).length = t'.rows.length := by rw [refs_len]; exact prs_len TB9.rs
      have c3 : (refs g.qs).length = t'.asks.length := by rw [refs_len]; exact prs_len TB9.qs
      refine s_retL (xs := [.int 1, .int (t'.cols.length : Nat), .int (t'.rows.length : Nat), .int (t'.asks.length : Nat)]) (el_lst (ea_cons ev_c (ea_cons (ev_is (ev_len (ev_fld (ev_var rfl) htb T.cl_Table T.n_Table_columns (tabF_c g)) (sq_of TB9.c)) (by rw [c1])) (ea_cons (ev_is (ev_len (ev_fld (ev_var rfl) htb T.cl_Table T.n_Table_rows (tabF_r g)) (sq_of TB9.r)) (by rw [c2])) (ea_cons (ev_is (ev_len (ev_fld (ev_var rfl) htb T.cl_Table T.n_Table_questions (tabF_q g)) (sq_of TB9.q)) (by rw [c3])) ea_nil)))) (by show (4 : Nat) ≤ 100000; decide)) fun r H10 hr e10 h10 => k r H10 ((FrN.frl f9).trans (FrN.ex e10)) ((hT.frl hd f9).ex e10) ⟨g, x, wl2, DK9.ex e10⟩ h10
def Deed (K : PySem.W.Frag) (a : Ad) (tp : Addr) (f : Addr) (sp : Sp) : Prop :=
  (f = a.f_load ∧ sp = sp_load K a tp) ∨ (f = a.f_shown ∧ sp = sp_deed K a tp (fun _ => True) fun _ => .shown) ∨ (f = a.f_wish ∧ sp = sp_deed K a tp (fun l => l.length ≤ 2000) .wish) ∨ (f = a.f_plain ∧ sp = sp_deed K a tp (fun _ => True) fun _ => .plain) ∨
  (f = a.f_best ∧ sp = sp_deed K a tp (fun _ => True) fun _ => .best) ∨ (f = a.f_check ∧ sp = sp_deed K a tp (fun l => l.length ≤ 2000) .check) ∨ (f = a.f_idle ∧ sp = sp_deed K a tp (fun _ => True) fun _ => .idle) ∨
  (f = a.f_from_all ∧ sp = sp_deed K a tp (fun l => ∃ g, l = [g]) fun l => .from_ (l.headD 0)) ∨ (f = a.f_with_helpers ∧ sp = sp_deed K a tp (fun l => l.length ≤ 2000) .help)
theorem deeds_good (T : Txt K mg a) (FC : ∃ fd, FunC K "plan_with" "plan_with" s_plan_with a.f_plan_with fd c) (TB : TabB base mg c tp) : ∀ f sp, Deed K a tp f sp → ∃ j ps, j ≤ 8 ∧ Good P w K mg base j f ps sp := by
  rintro f sp (⟨rfl, rfl⟩ | ⟨rfl, rfl⟩ | ⟨rfl, rfl⟩ | ⟨rfl, rfl⟩ | ⟨rfl, rfl⟩ | ⟨rfl, rfl⟩ | ⟨rfl, rfl⟩ | ⟨rfl, rfl⟩ | ⟨rfl, rfl⟩)
  · exact ⟨_, _, (by decide), ok_load T⟩
  · exact ⟨_, _, (by decide), ok_shown T⟩
  · exact ⟨_, _, (by decide), ok_wish T⟩
  · exact ⟨_, _, (by decide), ok_plain T⟩
  · exact ⟨_, _, (by decide), ok_best T FC TB⟩
  · exact ⟨_, _, (by decide), ok_check T⟩
  · exact ⟨_, _, (by decide), ok_idle T⟩
  · exact ⟨_, _, (by decide), ok_from_all T⟩
  · exact ⟨_, _, (by decide), ok_with_helpers T FC TB⟩
end
end BA

namespace BA
open PySem PySem.Spec PyProof.Rows L2 Evl LamX
open VamvsBase (Bytes)
open Vamvsa (columnsOf width sizeOf_ reader costOf)
open Vamvsd (Held)
open VamvsdNeutral (encode bytesOf)

theorem DkO.ex {a : Ad} {H H' : Hp} {d : Addr} {o : Vamvsd.Obj} (x : DkO a H d o) (e : Ex H H') : DkO a H' d o := by
  cases o with
  | none =>
    obtain ⟨dx, wl, h1, h2⟩ := x
    exact ⟨dx, wl, e _ _ h1, e _ _ h2⟩
  | some h =>
    obtain ⟨g, z, wl, DK⟩ := x
    exact ⟨g, z, wl, DK.ex e⟩
def sp_answered (K : PySem.W.Frag) (a : Ad) (tp : Addr) : Sp := fun vs H Q _ => ∃ (d p : Addr) (o : Vamvsd.Obj) (k : Nat) (l : List Int), vs = [.ref d, .int (k : Nat), .ref p] ∧ DkO a H d o ∧ SqL K H p (l.map V.int) ∧ TT_ tp H ∧ k ≤ 8 ∧ preN k l ∧
  (∀ r H', FrN [d] H H' → TT_ tp H' → DkO a H' d (Vamvsd.step o (callN k l)).1 → H' r = some (.lst ((encode (Vamvsd.step o (callN k l)).2).map V.int)) → Q (.ref r) H')
def deedL (a : Ad) : List (Int × V) := [(0, .ref a.f_load), (1, .ref a.f_shown), (2, .ref a.f_wish), (3, .ref a.f_plain), (4, .ref a.f_best), (5, .ref a.f_check), (6, .ref a.f_idle), (7, .ref a.f_from_all), (8, .ref a.f_with_helpers)]
theorem deed_run {K : PySem.W.Frag} {a : Ad} {tp d p : Addr} {H : Hp} {o : Vamvsd.Obj} {k : Nat} {l : List Int} (DO : DkO a H d o) (hp : SqL K H p (l.map V.int)) (hT : TT_ tp H) (hk : k ≤ 8) (pre : preN k l) (hok : k = 0 ∨ ∃ h, o = some h) :
    ∃ f sp, (deedL a).lookup ((k : Nat) : Int) = some (V.ref f) ∧ Deed K a tp f sp ∧ ∀ H1, Ex H H1 → ∀ (Q : VK) (E : XK), (∀ r H', FrN [d] H1 H' → TT_ tp H' → DkO a H' d (Vamvsd.step o (callN k l)).1 → H' r = some (.lst ((encode (Vamvsd.step o (callN k l)).2).map V.int)) → Q (.ref r) H') →
      (∀ n, Vamvsd.step o (callN k l) = (o, VamvsBase.one n) → RefAt a.c_Refused H1 E n) → sp [.ref d, .ref p] H1 Q E := by
  obtain ⟨p0, p7, pN⟩ := pre
  by_cases k0 : k = 0
  · subst k0
    exact ⟨a.f_load, _, rfl, .inl ⟨rfl, rfl⟩, fun H1 e Q E q r => ⟨d, p, o, l, rfl, DO.ex e, ex_l e hp, hT.ex e, (p0 rfl).1, (p0 rfl).2, q⟩⟩
  · obtain ⟨h, rfl⟩ := hok.resolve_left k0
    obtain ⟨g, z, wl, DK⟩ := DO
    have hl := pN k0
    have : k = 1 ∨ k = 2 ∨ k = 3 ∨ k = 4 ∨ k = 5 ∨ k = 6 ∨ k = 7 ∨ k = 8 := by omega
    rcases this with rfl | rfl | rfl | rfl | rfl | rfl | rfl | rfl
    · exact ⟨a.f_shown, _, rfl, .inr (.inl ⟨rfl, rfl⟩), fun H1 e Q E q r => ⟨d, p, z, wl, g, h, l, rfl, DK.ex e, ex_l e hp, hT.ex e, trivial, q, r⟩⟩
    · exact ⟨a.f_wish, _, rfl, .inr (.inr (.inl ⟨rfl, rfl⟩)), fun H1 e Q E q r => ⟨d, p, z, wl, g, h, l, rfl, DK.ex e, ex_l e hp, hT.ex e, hl, q, r⟩⟩
    · exact ⟨a.f_plain, _, rfl, .inr (.inr (.inr (.inl ⟨rfl, rfl⟩))), fun H1 e Q E q r => ⟨d, p, z, wl, g, h, l, rfl, DK.ex e, ex_l e hp, hT.ex e, trivial, q, r⟩⟩
    · exact ⟨a.f_best, _, rfl, .inr (.inr (.inr (.inr (.inl ⟨rfl, rfl⟩)))), fun H1 e Q E q r => ⟨d, p, z, wl, g, h, l, rfl, DK.ex e, ex_l e hp, hT.ex e, trivial, q, r⟩⟩
    · exact ⟨a.f_check, _, rfl, .inr (.inr (.inr (.inr (.inr (.inl ⟨rfl, rfl⟩))))), fun H1 e Q E q r => ⟨d, p, z, wl, g, h, l, rfl, DK.ex e, ex_l e hp, hT.ex e, hl, q, r⟩⟩
    · exact ⟨a.f_idle, _, rfl, .inr (.inr (.inr (.inr (.inr (.inr (.inl ⟨rfl, rfl⟩)))))), fun H1 e Q E q r => ⟨d, p, z, wl, g, h, l, rfl, DK.ex e, ex_l e hp, hT.ex e, trivial, q, r⟩⟩
    · exact ⟨a.f_from_all, _, rfl, .inr (.inr (.inr (.inr (.inr (.inr (.inr (.inl ⟨rfl, rfl⟩))))))), fun H1 e Q E q r => ⟨d, p, z, wl, g, h, l, rfl, DK.ex e, ex_l e hp, hT.ex e, p7 rfl, q, r⟩⟩
    · exact ⟨a.f_with_helpers, _, rfl, .inr (.inr (.inr (.inr (.inr (.inr (.inr (.inr ⟨rfl, rfl⟩))))))), fun H1 e Q E q r => ⟨d, p, z, wl, g, h, l, rfl, DK.ex e, ex_l e hp, hT.ex e, hl, q, r⟩⟩
section
variable {K : PySem.W.Frag} {σ : L2.St} {H H' : Hp} {D : Ends} {tz : TS} {sp : Sp} {t : TA} {vs : List V} {v : V}
theorem s_tryGV {c : Value} {i j : Nat} {ts : Addr → Value → Option Addr → TS} {R : Addr → Sp → Prop} {f : Addr} (h0 : σ[j]? = some (some (.ref f))) (hR : R f sp) (ha : EvA t σ H vs) (h : ∀ H1, Ex H H1 → sp vs H1 D.rt (WE (wAs K c i ts (fun _ _ _ _ => False) D) σ)) :
    (fun D σ H => tRet (tGV j R (WE (wAs K c i ts (fun _ _ _ _ => False) D)) t) D σ H) D σ H := ⟨f, sp, h0, hR, ha H (Ex.refl _) _ fun H1 e1 => h H1 e1⟩
end
section
variable {P : Program} {w : World} {K : PySem.W.Frag} {mg : Str → Option Value} {base : Heap} {a : Ad} {H H' : Hp} {σ : L2.St} {D : Ends} {tz : TS} {ta tb te : TE} {z p c tp : Addr}
theorem ok_answered (T : Txt K mg a) (FC : ∃ fd, FunC K "plan_with" "plan_with" s_plan_with a.f_plan_with fd c) (TB : TabB base mg c tp) : Good P w K mg base 9 a.f_answered ["desk", "number", "given"] (sp_answered K a tp) := by
  obtain ⟨fd, F⟩ := T.F_answered
  refine ⟨⟨fd, F.okX sc_answered (fun vs H Q E h => ?_) (fun cdv A outer s H vs Q E hr h => ⟨_, (pss_cons (ps_if (PW.pt (pw_and (pt_cmpR op_ne (pv 1) (pe_gi rfl T.m_LOAD) (nomark _)) (pw_and1 (pt_cmpR op_isN (pe_fld (pv 0) rfl) pe_non (by rfl)))))
      (pss_one (ps_ret (pe_lst (pa_cons (pe_gi rfl T.m_NO_TABLE) pa_nil))))
      pss_nil)
    (pss_cons (ps_set (i := 3) sc_answered.nd rfl (Or.inl rfl) (pe_ix (ix_kdI T.d_DEEDS) (pe_gr rfl T.m_DEEDS) (pv 1) (fun _ _ => rfl)))
    (pss_one (ps_try_as (i := 4) (Wout := fun _ _ _ _ => False) rfl rfl sc_answered.nd rfl rfl ⟨rfl, by decide, Or.inl T.x_Refused.g⟩ L2.takes0 (fun W pn xe tk _ => pss_one (ps_ret (pe_gv (i := 3) (Deed K a tp) (deeds_good T FC TB) (hr.mono (by decide)) (E := WE W) (fun σ => passAt tk σ) rfl (Or.inl rfl) (pa_cons (pv 0) (pa_cons (pv 2) pa_nil))))) (fun av oe cls dd pn hz hf => pss_one (ps_ret (pe_lst (pa_cons (pe_xf T.x_Refused.c T.x_Refused.n_number hz hf (pv 4)) pa_nil)))))))), ?_⟩), F.binds fun _ _ _ _ _ _ us hl => match us, hl with | [_, _, _], _ => rfl⟩, T.k_answered⟩
  · obtain ⟨d, p, o, k, l, rfl, _⟩ := h
    rfl
  · obtain ⟨d, p, o, k, l, rfl, DO, hp, hT, hk, pre, q⟩ := h
    obtain ⟨dx, tv, sv, wl, hd, htv⟩ : ∃ dx tv sv wl, H d = some (.ins a.c_Desk dx (dkF tv sv wl)) ∧ (decide (tv = V.non) = o.isNone) := by
      cases o with
      | none =>
        obtain ⟨dx, wl, h1, h2⟩ := DO
        exact ⟨dx, _, _, wl, h1, rfl⟩
      | some h =>
        obtain ⟨g, z, wl, DK⟩ := DO
        obtain ⟨dx, h1⟩ := DK.dk
        exact ⟨dx, _, _, wl, h1, rfl⟩
    refine q_when (b := (!decide (V.int (k : Nat) = V.int 0)) && o.isNone) (et_and (et_test (ev_op (ev_var rfl) ev_c (rv_ne rfl))) fun _ => et_test (ev_is (ev_op (ev_fld (ev_var rfl) hd T.cl_Desk T.n_Desk_table (dk_table _ _ _)) ev_c fun H1 _ _ q => ⟨rfl, q H1 (Ex.refl _)⟩) (by rw [htv]))) (fun hb H1 e1 => ?_) (fun hb H1 e1 => ?_)
    · rw [Bool.and_eq_true] at hb
      have ho : o = none := Option.isNone_iff_eq_none.mp hb.2
      subst ho
      have hk0 : k ≠ 0 := fun z => by
        rw [z] at hb
        exact absurd hb.1 (by decide)
      have es : Vamvsd.step none (callN k l) = (none, VamvsBase.one (-1)) := by
        have : k = 1 ∨ k = 2 ∨ k = 3 ∨ k = 4 ∨ k = 5 ∨ k = 6 ∨ k = 7 ∨ k = 8 := by omega
        rcases this with rfl | rfl | rfl | rfl | rfl | rfl | rfl | rfl <;> rfl
      rw [es] at q
      exact s_retL (xs := [.int (-1)]) (el_lst (ea_cons ev_c ea_nil) (by show (1 : Nat) ≤ 100000; decide)) fun r H2 hr e2 h2 => q r H2 (FrN.ex (e1.trans e2)) (hT.ex (e1.trans e2)) (DO.ex (e1.trans e2)) h2
    · have hok : k = 0 ∨ ∃ h, o = some h := by
        by_cases k0 : k = 0
        · exact .inl k0
        · have hd0 : decide (V.int (k : Nat) = V.int 0) = false := decide_eq_false fun z => k0 (by
            have := V.int.inj z
            omega)
          rw [hd0] at hb
          cases o with
          | none => cases hb
          | some h => exact .inr ⟨h, rfl⟩
      obtain ⟨f, sp, hl1, hD, hrun⟩ := deed_run DO hp hT hk pre hok
      refine q_asg (v := .ref f) (ev_op ev_c (ev_var rfl) fun H2 e2 Q q => ⟨(k : Int), .ref f, rfl, rfl, hl1, q H2 (Ex.refl _)⟩) fun H2 e2 => ?_
      refine s_tryGV rfl hD (ea_cons (ev_var rfl) (ea_cons (ev_var rfl) ea_nil)) fun H3 e3 => ?_
      have e123 := (e1.trans e2).trans e3
      refine hrun H3 e123 _ _ (fun r H4 f4 T4 D4 h4 => q r H4 ((FrN.ex e123).trans f4) T4 D4 h4) fun n hn xd H4 e4 hxd => ⟨true, T.x_Refused.c.te, fun _ av hav => ?_, fun z => nomatch z⟩
      rw [hn] at q
      exact s_retL (xs := [.int n]) (el_lst (ea_cons (ev_xf rfl hxd lk_here) ea_nil) (by show (1 : Nat) ≤ 100000; decide)) fun r H5 hr e5 h5 => q r H5 (FrN.ex ((e123.trans e4).trans e5)) (hT.ex ((e123.trans e4).trans e5)) (DO.ex ((e123.trans e4).trans e5)) h5
end
end BA

namespace BA
open PySem PySem.Spec PyProof.Rows L2 Evl

/-! ### an expression's reading while a list is set apart -/
def hideH (H : Hp) (a : Addr) : Hp := fun b => if b = a then none else H b
theorem hide_at {H : Hp} {a : Addr} : hideH H a a = none := if_pos rfl
theorem hide_ne {H : Hp} {a b : Addr} (n : b ≠ a) : hideH H a b = H b := if_neg n
theorem of_hide {H : Hp} {a b : Addr} {o : HO} (e : hideH H a b = some o) : b ≠ a ∧ H b = some o := by
  by_cases h : b = a
  · rw [h, hide_at] at e
    cases e
  · rw [hide_ne h] at e
    exact ⟨h, e⟩
theorem hide_none {H : Hp} {a b : Addr} (e : H b = none) : hideH H a b = none := by
  by_cases h : b = a
  · rw [h]; exact hide_at
  · rw [hide_ne h]; exact e
def tFrame (i : Nat) (te : TE) : TE := fun σ H Q => ∃ fo xs, σ[i]? = some (some (.ref fo)) ∧ H fo = some (.lst xs) ∧ te σ (hideH H fo) (fun v H' => H' fo = none → Q v (upd H' fo (.lst xs)))
theorem pe_frame {X : Cx} {e : Expr} {te : TE} (i : Nat) (h : PE X e te) (hex : X.ex = [] := by rfl) : PE X e (tFrame i te) := by
  refine ⟨fun pins s σ H Q I h0 => ?_⟩
  obtain ⟨fo, xs, _, hfo, ht⟩ := h0
  obtain ⟨hz, its, n, rv, ho⟩ := I.hok fo _ hfo
  have nex : ∀ b : Addr, b ∉ X.ex := fun b z => by rw [hex] at z; cases z
  have nL : fo ≠ X.env.locals := fun z => by rw [z, I.free] at hfo; cases hfo
  have n0 : ∀ b o, X.s_0.heap.get? b = some o → X.H_0 b = none → b ≠ fo := fun b o a1 a2 z => by
    have := I.base.free b o a1 a2 (nex b)
    rw [z, hfo] at this
    cases this
  have nF : fo ∉ X.fs := fun hb => by
    obtain ⟨_, o, ho2, _⟩ := I.ok.funs.mem hb
    exact n0 fo o ho2 (I.ok.frf fo hb) rfl
  have np : ∀ p ∈ X.pn ++ pins, p.1 ≠ fo := fun p hp z => by
    have := (I.pin p hp).2.1
    rw [z, hfo] at this
    cases this
  have hI : Inv X (pins ++ [(fo, { cls := .type "list", data := .seq its.toArray n })]) σ (hideH H fo) s := by
    refine ⟨I.ok, I.os, I.bare, ⟨I.base.keep, I.base.slot, fun b o a1 a2 a3 => hide_none (I.base.free b o a1 a2 a3), I.base.there, fun b ys a1 => ?_, fun b o u a1 => ?_, fun b ps a1 => ?_⟩, I.loc, I.cell, hide_none I.free, fun x c a1 => hide_none (I.freeC x c a1), fun p hp => ?_, fun b u a1 => ?_, I.len⟩
    · have q := I.base.tups b ys a1
      rw [hide_ne (ne_of q hfo nofun)]
      exact q
    · have q := I.base.frzs b o u a1
      rw [hide_ne (ne_of q hfo nofun)]
      exact q
    · obtain ⟨m, q⟩ := I.base.tbls b ps a1
      exact ⟨m, by rw [hide_ne (ne_of q hfo nofun)]; exact q⟩
    · rcases List.mem_append.mp hp with z | z
      · obtain ⟨b1, b2, b3⟩ := I.pin p (List.mem_append_left _ z)
        exact ⟨b1, hide_none b2, b3⟩
      · rcases List.mem_append.mp z with z | z
        · obtain ⟨b1, b2, b3⟩ := I.pin p (List.mem_append_right _ z)
          exact ⟨b1, hide_none b2, b3⟩
        · rw [List.mem_singleton.mp z]
          exact ⟨ho, hide_at, nL, nF, fun v w => nomatch w⟩
    · obtain ⟨b1, b2⟩ := of_hide a1
      exact (I.hok b u b2).stay (fun c v _ q => q) (fun c q => by rw [hide_ne (ne_of q hfo nofun)]; exact q) fun c ys q => by rw [hide_ne (ne_of q hfo nofun)]; exact q
  refine wpAny_mono (h.run _ s σ (hideH H fo) _ hI ht) (fun u s' hq => ?_) fun er s' he => he
  obtain ⟨v, H', J, rv2, q⟩ := hq
  obtain ⟨p1, p2, _⟩ := J.pin (fo, _) (List.mem_append_right _ (List.mem_append_right _ List.mem_cons_self))
  have ne2 : ∀ {b : Addr} {o : HO}, H' b = some o → b ≠ fo := fun q z => by rw [z, p2] at q; cases q
  refine ⟨v, upd H' fo (.lst xs), ⟨J.ok, J.os, J.bare, ⟨J.base.keep, J.base.slot, fun b o a1 a2 a3 => ?_, J.base.there, fun b ys a1 => ?_, fun b o u a1 => ?_, fun b ps a1 => ?_⟩, J.loc, J.cell, ?_, fun x c a1 => ?_, fun p hp => ?_, fun b u a1 => ?_, J.len⟩, rv2, q p2⟩
  · rw [upd_ne (n0 b o a1 a2)]
    exact J.base.free b o a1 a2 a3
  · have q := J.base.tups b ys a1
    rw [upd_ne (ne2 q)]
    exact q
  · have q := J.base.frzs b o u a1
    rw [upd_ne (ne2 q)]
    exact q
  · obtain ⟨m, q⟩ := J.base.tbls b ps a1
    exact ⟨m, by rw [upd_ne (ne2 q)]; exact q⟩
  · rw [upd_ne nL.symm]
    exact J.free
  · rw [upd_ne (fun z => ?_)]
    · exact J.freeC x c a1
    · obtain ⟨w', oc, b1, b2⟩ := J.cell x c a1
      rw [z] at b1
      have b1 : s'.heap.get? fo = some oc := b1
      rw [p1] at b1
      cases b1
      cases b2
  · obtain ⟨b1, b2, b3⟩ := J.pin p ((List.mem_append.mp hp).elim (fun z => List.mem_append_left _ z) fun z => List.mem_append_right _ (List.mem_append_left _ z))
    exact ⟨b1, by rw [upd_ne (np p hp)]; exact b2, b3⟩
  · by_cases hb : b = fo
    · subst hb
      rw [upd_same] at a1
      cases a1
      exact ⟨hz, its, n, rv, p1⟩
    · rw [upd_ne hb] at a1
      exact (J.hok b u a1).stay (fun c v _ q => q) (fun c q => by rw [upd_ne (ne2 q)]; exact q) fun c ys q => by rw [upd_ne (ne2 q)]; exact q
end BA

namespace BA
open PySem PySem.Spec PyProof.Rows L2 Evl LamX
open VamvsdNeutral (encode bytesOf)

theorem sq_extN' {K : PySem.W.Frag} {H H' : Hp} {a : Addr} {xs : List V} (h : SqL K H a xs) (e : ExtN H H') : SqL K H' a xs := sq_extN h e
theorem ExtN.fr {d : Addr} {H H1 H2 : Hp} (e : ExtN H H1) (nd : H d = none) (f : FrN [d] H1 H2) : ExtN H H2 := fun b o h n => f b o (e b o h n) (by
  intro z
  rw [List.mem_singleton.mp z, nd] at h
  cases h) n
theorem ExtN.mut {l : Addr} {o : HO} {H H1 : Hp} (e : ExtN H H1) (nl : H l = none) : ExtN H (upd H1 l o) := fun b u h n => by
  rw [upd_ne (fun z => by rw [z, nl] at h; cases h)]
  exact e b u h n
def sp_answers (K : PySem.W.Frag) (a : Ad) (tp : Addr) : Sp := fun vs H Q _ => ∃ (p : Addr) (l : List Int) (cs : List (List (List Int))), vs = [.ref p] ∧ SqL K H p (l.map V.int) ∧ TT_ tp H ∧ PyFlat.calls PyVamvsd.shape l.length l = some cs ∧ (∀ c ∈ cs, VamvsdNeutral.asked1 (PyVamvsd.whole c) = true) ∧
  (PyVamvsd.answers l).length ≤ 10000000 ∧ ∀ r H', H' r = some (.lst ((PyVamvsd.answers l).map V.int)) → Q (.ref r) H'
theorem calls_cons {f : Nat} {p : Int} {r : List Int} {cs : List (List (List Int))} (h : PyFlat.calls PyVamvsd.shape f (p :: r) = some cs) : ∃ f' c t cs', PyFlat.call PyVamvsd.shape (p :: r) = some (c, t) ∧ PyFlat.calls PyVamvsd.shape f' t = some cs' ∧ cs = c :: cs' := by
  cases f with
  | zero => cases h
  | succ f =>
    have h : (match PyFlat.call PyVamvsd.shape (p :: r) with
      | none => none
      | some (c, t) => match PyFlat.calls PyVamvsd.shape f t with
        | none => none
        | some cs => some (c :: cs)) = some cs := h
    cases h1 : PyFlat.call PyVamvsd.shape (p :: r) with
    | none => rw [h1] at h; cases h
    | some ct =>
      obtain ⟨c, t⟩ := ct
      rw [h1] at h
      cases h2 : PyFlat.calls PyVamvsd.shape f t with
      | none =>
        have h : (match PyFlat.calls PyVamvsd.shape f t with
          | none => none
          | some cs => some (c :: cs)) = some cs := h
        rw [h2] at h
        cases h
      | some cs2 =>
        have h : (match PyFlat.calls PyVamvsd.shape f t with
          | none => none
          | some cs => some (c :: cs)) = some cs := h
        rw [h2] at h
        cases h
        exact ⟨f, c, t, cs2, rfl, h2, rfl⟩
section
variable {K : PySem.W.Frag} {a : Ad} {tp : Addr} {σ : L2.St} {H H' : Hp} {D : Ends} {tz : TS} {ta tb te : TE} {v x : V}
theorem q_parVL {i j : Nat} {xs : List V} (ha : Ev ta σ H x) (hb : EvL tb σ H xs) (k : ∀ q H1, H q = none → Ex H H1 → H1 q = some (.lst xs) → tz D ((σ.set i (some x)).set j (some (.ref q))) H1) : tSeq (tPar i j (tCons ta (tCons tb tNil))) tz D σ H :=
  ha H (Ex.refl H) _ fun H1 e1 => hb H1 e1 _ fun q H2 hq e2 h2 => ⟨_, _, rfl, k q H2 (fresh_back e1 hq) (e1.trans e2) h2⟩
theorem hide_ex {H H1 : Hp} {fo : Addr} (e : Ex H H1) : Ex (hideH H fo) (hideH H1 fo) := fun b o h => by
  obtain ⟨n, q⟩ := of_hide h
  rw [hide_ne n]
  exact e _ _ q
theorem TT_.hide {H : Hp} {fo : Addr} {xs : List V} (hT : TT_ tp H) (hfo : H fo = some (.lst xs)) : TT_ tp (hideH H fo) := fun q hq => by
  obtain ⟨ps, t1, t2, t3⟩ := hT q hq
  refine ⟨ps, by rw [hide_ne (ne_of t1 hfo nofun)]; exact t1, t2, fun pos cv hcv => ?_⟩
  obtain ⟨c0, u1, u2⟩ := t3 pos cv hcv
  exact ⟨c0, u1, by rw [hide_ne (ne_of u2 hfo (by unfold CodeO; nofun))]; exact u2⟩
theorem hide_upd {H : Hp} {fo : Addr} {o : HO} (n : H fo = none) : hideH (upd H fo o) fo = H := funext fun b => by
  by_cases h : b = fo
  · rw [h, hide_at, n]
  · rw [hide_ne h, upd_ne h]
theorem hide_upd' {H : Hp} {fo : Addr} {o : HO} : hideH (upd H fo o) fo = hideH H fo := funext fun b => by
  by_cases h : b = fo
  · rw [h, hide_at, hide_at]
  · rw [hide_ne h, hide_ne h, upd_ne h]
theorem q_appZ {l : Addr} {xs : List V} (hl : H l = some (.lst xs)) (ha : Ev ta σ H (.ref l)) (h : Ev te σ H v) (hz : xs.length < sizeLine) (k : ∀ H1, Ex H H1 → tz D σ (upd H1 l (.lst (xs ++ [v])))) :
    tSeq (tDrop (tBM K "list" rAppend ta (tCons te tNil))) tz D σ H := ha H (Ex.refl H) _ fun H1 e1 =>
  ⟨Or.inl ⟨rfl, xs, sq_of (e1 l _ hl)⟩, h H1 e1 _ fun H2 e2 => ⟨l, xs, v, rfl, rfl, (e1.trans e2) l _ hl, hz, k H2 (e1.trans e2)⟩⟩
theorem s_extZ {l p : Addr} {xs ys : List V} (hl : H l = some (.lst xs)) (ha : Ev ta σ H (.ref l)) (h : Ev te σ H (.ref p)) (hp : H p = some (.lst ys)) (hz : xs.length + ys.length ≤ sizeLine) (k : ∀ H1, Ex H H1 → D.nx σ (upd H1 l (.lst (xs ++ ys)))) :
    tDrop (tBM K "list" rExtend ta (tCons te tNil)) D σ H := ha H (Ex.refl H) _ fun H1 e1 =>
  ⟨Or.inl ⟨rfl, xs, sq_of (e1 l _ hl)⟩, h H1 e1 _ fun H2 e2 => ⟨l, p, xs, ys, rfl, rfl, (e1.trans e2) l _ hl, (e1.trans e2) _ _ hp, hz, k H2 (e1.trans e2)⟩⟩
theorem q_par3D {C : Addr} {sp : Sp} {i j m : Nat} {R : Addr → Hp → Prop} (hs : ∀ H1, Ex H H1 → ∀ x dx, H x = none → H1 x = some (.ins C dx []) → ∀ Q : VK, (∀ H2, R x H2 → Q .non H2) → sp [.ref x] H1 Q E0)
    (k : ∀ x fo H2 H3, H x = none → R x H2 → H2 fo = none → Ex H2 H3 → H3 fo = some (.lst []) → tz D (((σ.set i (some (.ref x))).set j (some (.ref fo))).set m (some (.int 0))) H3) :
    tSeq (tPar3 i j m (tCons (tGC C sp tNil) (tCons (tLst tNil) (tCons (tC (.int 0)) tNil)))) tz D σ H := fun x dx hx hdx ne =>
  hs _ (Ex.mut (Ex.new hdx) hx) x dx hx upd_same _ fun H2 hR => ⟨rfl, (by show 0 ≤ sizeLine; decide), fun fo hfo => ⟨_, _, _, rfl, k x fo H2 _ hx hR hfo (Ex.new hfo) upd_same⟩⟩
theorem ans_tail {d fo q : Addr} {o : Vamvsd.Obj} {k : Nat} {l F : List Int} {v0 v3 : V} {x6 : Option V} (DO : DkO a (hideH H fo) d o) (hq : H q = some (.lst (l.map V.int))) (nq : q ≠ fo) (hT : TT_ tp H) (hk : k ≤ 8) (pre : preN k l) (hfo : H fo = some (.lst (F.map V.int))) (nfd : fo ≠ d)
    (hz : F.length + 1 + (encode (Vamvsd.step o (callN k l)).2).length ≤ sizeLine)
    (kk : ∀ r H1, (∀ b u, H b = some u → b ≠ d → b ≠ fo → (∀ ps, u ≠ .tbl ps) → H1 b = some u) → TT_ tp H1 → DkO a (hideH H1 fo) d (Vamvsd.step o (callN k l)).1 → H1 fo = some (.lst ((F ++ (((encode (Vamvsd.step o (callN k l)).2).length : Int) :: encode (Vamvsd.step o (callN k l)).2)).map V.int)) → D.nx [some v0, some (.ref d), some (.ref fo), some v3, some (.int (k : Nat)), some (.ref q), some (.ref r)] H1) :
    tSeq (tAsg (tFrame 2 (tG (sp_answered K a tp) (fun _ => E0) (tCons (tVar 1) (tCons (tVar 4) (tCons (tVar 5) tNil))))) (gName 6)) (tSeq (tDrop (tBM K "list" rAppend (tVar 2) (tCons (tCB (rLenS K) (tCons (tVar 6) tNil)) tNil))) (tDrop (tBM K "list" rExtend (tVar 2) (tCons (tVar 6) tNil)))) D [some v0, some (.ref d), some (.ref fo), some v3, some (.int (k : Nat)), some (.ref q), x6] H := by
  refine q_asgR ⟨fo, F.map V.int, rfl, hfo, ea_cons (ev_var rfl) (ea_cons (ev_var rfl) (ea_cons (ev_var rfl) ea_nil)) (hideH H fo) (Ex.refl _) _ fun H1 e1 => ⟨d, q, o, k, l, rfl, DO.ex e1, sq_of (e1 _ _ (by rw [hide_ne nq]; exact hq)), (hT.hide hfo).ex e1, hk, pre, fun r H2 f2 T2 D2 h2 n2 => ?_⟩⟩
  generalize hans : encode (Vamvsd.step o (callN k l)).2 = ans at h2 hz kk
  have nr : r ≠ fo := ne_of_none h2 n2
  have h2' : upd H2 fo (.lst (F.map V.int)) r = some (.lst (ans.map V.int)) := by rw [upd_ne nr]; exact h2
  have e2 : Ex H2 (upd H2 fo (.lst (F.map V.int))) := fun b u hb => by
    rw [upd_ne (ne_of_none hb n2)]
    exact hb
  have T3 := T2.ex e2
  have D3 : DkO a (hideH (upd H2 fo (.lst (F.map V.int))) fo) d (Vamvsd.step o (callN k l)).1 := by rw [hide_upd n2]; exact D2
  have hf3 : upd H2 fo (.lst (F.map V.int)) fo = some (.lst (F.map V.int)) := upd_same
  have fr3 : ∀ b u, H b = some u → b ≠ d → b ≠ fo → (∀ ps, u ≠ .tbl ps) → upd H2 fo (.lst (F.map V.int)) b = some u := fun b u hb n1 n3 nt => by
    rw [upd_ne n3]
    exact f2 _ _ (e1 _ _ (by rw [hide_ne n3]; exact hb)) (by simpa using n1) nt
  generalize upd H2 fo (.lst (F.map V.int)) = H3 at h2' T3 D3 hf3 fr3
  refine q_appZ hf3 (ev_var rfl) (ev_is (ev_len (ev_var rfl) (sq_of h2')) (by rw [List.length_map])) (by rw [List.length_map]; omega) fun H4 e4 => ?_
  have h5 : upd H4 fo (.lst (F.map V.int ++ [.int (ans.length : Nat)])) r = some (.lst (ans.map V.int)) := by rw [upd_ne nr]; exact e4 _ _ h2'
  have fmut : ∀ {H5 : Hp} {xs ys : List V}, H5 fo = some (.lst xs) → TT_ tp H5 → TT_ tp (upd H5 fo (.lst ys)) := fun hx hT5 q hq => by
    obtain ⟨ps, t1, t2, t3⟩ := hT5 q hq
    refine ⟨ps, by rw [upd_ne (ne_of t1 hx nofun)]; exact t1, t2, fun pos cv hcv => ?_⟩
    obtain ⟨c0, u1, u2⟩ := t3 pos cv hcv
    exact ⟨c0, u1, by rw [upd_ne (ne_of u2 hx (by unfold CodeO; nofun))]; exact u2⟩
  refine s_extZ upd_same (ev_var rfl) (ev_var rfl) h5 (by rw [List.length_append, List.length_map, List.length_map]; show F.length + 1 + ans.length ≤ _; omega) fun H6 e6 => kk r _ (fun b u hb n1 n3 nt => ?_) ?_ ?_ ?_
  · rw [upd_ne n3]
    exact e6 _ _ (by rw [upd_ne n3]; exact e4 _ _ (fr3 b u hb n1 n3 nt))
  · exact fmut (e6 _ _ upd_same) ((fmut (e4 _ _ hf3) (T3.ex e4)).ex e6)
  · rw [hide_upd']
    refine DkO.ex ?_ (hide_ex e6)
    rw [hide_upd']
    exact D3.ex (hide_ex e4)
  · rw [upd_same, List.map_append, List.append_assoc]
    rfl
def AnsW (a : Ad) (tp p d fo : Addr) (l : List Int) (H : Hp) (m : Nat) (σ' : L2.St) (H' : Hp) : Prop := ∃ (pre r : List Int) (f : Nat) (cs' : List (List (List Int))) (o : Vamvsd.Obj) (F : List Int) (x4 x5 x6 : Option V), m = r.length ∧ l = pre ++ r ∧ PyFlat.calls PyVamvsd.shape f r = some cs' ∧ (∀ c ∈ cs', VamvsdNeutral.asked1 (PyVamvsd.whole c) = true) ∧
  PyVamvsd.answers l = F ++ PyFlat.told (PyFlat.played VamvsdNeutral.step o (cs'.map PyVamvsd.whole)) ∧ σ' = [some (.ref p), some (.ref d), some (.ref fo), some (.int (pre.length : Nat)), x4, x5, x6] ∧ ExtN H H' ∧ TT_ tp H' ∧ DkO a (hideH H' fo) d o ∧ H' fo = some (.lst (F.map V.int))
theorem ans_done {p d fo q : Addr} {l : List Int} {H0 H5 : Hp} {M k f' : Nat} {o : Vamvsd.Obj} {x t pre' F : List Int} {cs2 : List (List (List Int))} {x6' : Option V} {z3 : Int} (hz3 : z3 = ((pre'.length : Nat) : Int)) (nd : H0 d = none) (nfo : H0 fo = none) (nfd : fo ≠ d) (eN : ExtN H0 H5) (T5 : TT_ tp H5) (D5 : DkO a (hideH H5 fo) d o) (hfo : H5 fo = some (.lst (F.map V.int)))
    (hk : k ≤ 8) (hpre : preN k x) (hz : F.length + 1 + (encode (Vamvsd.step o (callN k x)).2).length ≤ sizeLine) (hc2 : PyFlat.calls PyVamvsd.shape f' t = some cs2) (hask : ∀ c ∈ cs2, VamvsdNeutral.asked1 (PyVamvsd.whole c) = true)
    (hans : PyVamvsd.answers l = (F ++ (((encode (Vamvsd.step o (callN k x)).2).length : Int) :: encode (Vamvsd.step o (callN k x)).2)) ++ PyFlat.told (PyFlat.played VamvsdNeutral.step (Vamvsd.step o (callN k x)).1 (cs2.map PyVamvsd.whole)))
    (hq : H5 q = some (.lst (x.map V.int))) (nq : q ≠ fo) (hl : l = pre' ++ t) (hlt : t.length < M) (hN : ∀ σ2 H2, (∃ m', m' < M ∧ AnsW a tp p d fo l H0 m' σ2 H2) → D.nx σ2 H2) :
    tSeq (tAsg (tFrame 2 (tG (sp_answered K a tp) (fun _ => E0) (tCons (tVar 1) (tCons (tVar 4) (tCons (tVar 5) tNil))))) (gName 6)) (tSeq (tDrop (tBM K "list" rAppend (tVar 2) (tCons (tCB (rLenS K) (tCons (tVar 6) tNil)) tNil))) (tDrop (tBM K "list" rExtend (tVar 2) (tCons (tVar 6) tNil)))) D [some (.ref p), some (.ref d), some (.ref fo), some (.int z3), some (.int (k : Nat)), some (.ref q), x6'] H5 := by
  subst hz3
  exact ans_tail D5 hq nq T5 hk hpre hfo nfd hz fun rr H6 fr T6 D6 h6 => hN _ _ ⟨t.length, hlt, pre', t, f', cs2, _, _, _, _, _, rfl, hl, hc2, hask, hans, rfl, fun b u hb nt => fr b u (eN b u hb nt) (fun z => by rw [z, nd] at hb; cases hb) (fun z => by rw [z, nfo] at hb; cases hb) nt, T6, D6, h6⟩
end
section
variable {P : Program} {w : World} {K : PySem.W.Frag} {mg : Str → Option Value} {base : Heap} {a : Ad} {H H' : Hp} {σ : L2.St} {D : Ends} {tz : TS} {ta tb te : TE} {z p c tp : Addr}
theorem ok_answers (T : Txt K mg a) (FC : ∃ fd, FunC K "plan_with" "plan_with" s_plan_with a.f_plan_with fd c) (TB : TabB base mg c tp) : Good P w K mg base 10 a.f_answers ["calls"] (sp_answers K a tp) := by
  obtain ⟨fd, F⟩ := T.F_answers
  refine ⟨⟨fd, F.okX sc_answers (fun vs H Q E h => ?_) (fun cdv A outer s H vs Q E hr h => ⟨_, (pss_cons (ps_par3 (i := 1) (j := 2) (l := 3) (by rfl) sc_answers.nd rfl rfl rfl (by decide) (by decide) (by decide) rfl rfl rfl (pa_cons (pe_gc0 (ok_Desk_init T) T.mk_Desk (hr.mono (by decide)) rfl T.m_Desk) (pa_cons (pe_lst pa_nil) (pa_cons pe_int pa_nil))) (by rfl))
    (pss_cons (ps_while (passes_of rfl) (pt_cmpR op_lt (pv 3) (pe_callB call_len_seq (by rfl) T.b_len (by decide +kernel) (pa_cons (pv 0) pa_nil)) (nomark _))
      (pss_cons (ps_par (i := 4) (j := 5) (by rfl) sc_answers.nd rfl rfl (by decide) rfl rfl (pa_cons (pe_ix ix_list (pv 0) (pv 3) (fun _ _ => rfl)) (pa_cons (pe_lst pa_nil) pa_nil)) (by rfl))
    (pss_cons (ps_aug (i := 3) sc_answers.nd rfl (Or.inl rfl) pe_int ip_add)
    (pss_cons (ps_if (pt_cmpR op_in_seq (pv 4) (pe_gr rfl T.m_WITH_ROW) (by rfl))
      (pss_cons (ps_set (i := 5) sc_answers.nd rfl (Or.inl rfl) (pe_slice sl_list (pv 0) (po_some (pe_op op_add (pv 3) pe_int)) (po_some (pe_op op_add (pe_op op_add (pv 3) pe_int) (pe_ix ix_list (pv 0) (pv 3) (fun _ _ => rfl))))))
    (pss_one (ps_set (i := 3) sc_answers.nd rfl (Or.inl rfl) (pe_op op_add (pe_op op_add (pv 3) pe_int) (pe_callB call_len_seq (by rfl) T.b_len (by decide +kernel) (pa_cons (pv 5) pa_nil))))))
      (pss_one (ps_if (pt_cmpR op_eq (pv 4) (pe_gi rfl T.m_WITH_NUMBER) (nomark _))
      (pss_cons (ps_set (i := 5) sc_answers.nd rfl (Or.inl rfl) (pe_lst (pa_cons (pe_ix ix_list (pv 0) (pv 3) (fun _ _ => rfl)) pa_nil)))
    (pss_one (ps_aug (i := 3) sc_answers.nd rfl (Or.inl rfl) pe_int ip_add)))
      pss_nil)))
    (pss_cons (ps_set (i := 6) sc_answers.nd rfl (Or.inl rfl) (pe_frame 2 (pe_g (ok_answered T FC TB) (hr.mono (by decide)) rfl T.m_answered (E := fun _ => E0) px0 (pa_cons (pv 1) (pa_cons (pv 4) (pa_cons (pv 5) pa_nil))))))
    (pss_cons (ps_expr (pe_bm PySem.F.plainAttrs_list PySem.F.slot_list_append PySem.F.type_list_append mt_append (pv 2) (pa_cons (pe_callB call_len_seq (by rfl) T.b_len (by decide +kernel) (pa_cons (pv 6) pa_nil)) pa_nil)))
    (pss_one (ps_expr (pe_bm PySem.F.plainAttrs_list PySem.F.slot_list_extend PySem.F.type_list_extend mt_extend (pv 2) (pa_cons (pv 6) pa_nil))))))))))
    (pss_one (ps_ret (pv 2))))), ?_⟩), F.binds fun _ _ _ _ _ _ us hl => match us, hl with | [_], _ => rfl⟩, T.k_answers⟩
  · obtain ⟨p, l, cs, rfl, _⟩ := h
    rfl
  · obtain ⟨p, l, cs, rfl, hp, hT, hcs, hask, hlen, k⟩ := h
    have hans : PyVamvsd.answers l = PyFlat.told (PyFlat.played VamvsdNeutral.step VamvsdNeutral.start (cs.map PyVamvsd.whole)) := by
      unfold PyVamvsd.answers PyVamvsd.calls
      rw [hcs]
    refine q_par3D (R := fun x H2 => DkO a H2 x none ∧ Ex H H2) (fun H1 e1 x dx nx hx Q q => ⟨x, dx, rfl, hx, fun H2 wl nwl h2 hwl f2 => q H2 ⟨⟨dx, wl, h2, hwl⟩, FrL.new (l := [x]) ((FrL.ex e1).trans f2) fun b hb => by rw [List.mem_singleton.mp hb]; exact nx⟩⟩) fun d fo H2 H3 nd ⟨D2, e2⟩ nfo2 e3 hfo3 => ?_
    have nfo : H fo = none := fresh_back e2 nfo2
    have nfd : fo ≠ d := by
      obtain ⟨dx, wl, h1, _⟩ := D2
      exact (ne_of_none h1 nfo2).symm
    have D3 : DkO a (hideH H3 fo) d none := D2.ex fun b u hb => by
      rw [hide_ne (ne_of_none hb nfo2)]
      exact e3 _ _ hb
    refine q_while (AnsW a tp p d fo l H) l.length
      ⟨[], l, l.length, cs, none, [], none, none, none, rfl, rfl, hcs, hask, hans, rfl, ExtN.of (e2.trans e3), hT.ex (e2.trans e3), D3, hfo3⟩ ?_
    rintro m σ' H' ⟨pre, r, f, cs', o, F, x4, x5, x6, rfl, hl, hcs', hask', hans', rfl, eN, T', D', hfo'⟩
    have hp' := sq_extN hp eN
    refine ⟨decide (((pre.length : Nat) : Int) < ((l.map V.int).length : Int)), et_test (ev_op (ev_var rfl) (ev_len (ev_var rfl) hp') rv_I0), fun hb H1 e1 => ?_, fun hb H1 e1 => ?_⟩
    · have hlt : pre.length < l.length := by
        have := of_decide_eq_true hb
        rw [List.length_map] at this
        omega
      cases r with
      | nil => rw [hl, List.append_nil] at hlt; omega
      | cons p0 r =>
        obtain ⟨f', cc, t, cs2, hc1, hc2, rfl⟩ := calls_cons hcs'
        obtain ⟨kk, x, ⟨hpk, hk8, hrd⟩, hpre, hstep⟩ := call_inv hc1 (hask' _ List.mem_cons_self)
        subst hpk
        have hans2 : PyVamvsd.answers l = (F ++ (((encode (Vamvsd.step o (callN kk x)).2).length : Int) :: encode (Vamvsd.step o (callN kk x)).2)) ++ PyFlat.told (PyFlat.played VamvsdNeutral.step (Vamvsd.step o (callN kk x)).1 (cs2.map PyVamvsd.whole)) := by
          rw [hans', List.append_assoc]
          congr 1
          show PyFlat.told ((VamvsdNeutral.step o (PyVamvsd.whole cc)).2 :: PyFlat.played VamvsdNeutral.step (VamvsdNeutral.step o (PyVamvsd.whole cc)).1 (cs2.map PyVamvsd.whole)) = _
          rw [hstep o, told_cons]
        have hz : F.length + 1 + (encode (Vamvsd.step o (callN kk x)).2).length ≤ sizeLine := by
          rw [hans2, List.length_append, List.length_append, List.length_cons] at hlen
          rw [sizeLine_eq]
          omega
        have hat0 : (l.map V.int)[pre.length]? = some (V.int (kk : Nat)) := by
          rw [List.getElem?_map, hl, List.getElem?_append_right (Nat.le_refl _), Nat.sub_self]
          rfl
        refine ⟨fun σ2 H2 => ∃ m', m' < (((kk : Nat) : Int) :: r).length ∧ AnsW a tp p d fo l H m' σ2 H2, fun σ2 H2 q => q, ?_⟩
        refine q_parVL (ev_op (ev_var rfl) (ev_var rfl) (rv_ixL (ex_l e1 hp') (atI_nat hat0))) (el_lst ea_nil (by decide)) fun q0 H4 nq0 e4 hq0 => ?_
        have e14 := e1.trans e4
        have hp4 := ex_l e14 hp'
        have nqf : ∀ {q : Addr} {H5 : Hp}, Ex H' H5 → H5 q = none → q ≠ fo := fun e5 hq5 => (ne_of_none (e5 _ _ hfo') hq5).symm
        refine q_aug rfl ev_c fun H5 e5 => ?_
        have e15 := e14.trans e5
        have hp5 := ex_l e15 hp'
        have ein : inV (.int (kk : Nat)) [V.int 0, .int 2, .int 5, .int 8] = decide (((kk : Nat) : Int) ∈ [(0 : Int), 2, 5, 8]) := inV_ints _ [0, 2, 5, 8]
        have hpl : ((pre ++ [((kk : Nat) : Int)]).length) = pre.length + 1 := by rw [List.length_append]; rfl
        refine q_if (b := decide (((kk : Nat) : Int) ∈ [(0 : Int), 2, 5, 8])) (et_test (ev_is (ev_op (ev_var rfl) ev_c (rv_inT (T.t_WITH_ROW _) rfl rfl)) (congrArg V.bl ein))) (fun hb6 H6 e6 => ?_) (fun hb6 H6 e6 => ?_)
        · -- a row
          have hkm : kk = 0 ∨ kk = 2 ∨ kk = 5 ∨ kk = 8 := by
            have := of_decide_eq_true hb6
            simp only [List.mem_cons, List.not_mem_nil, or_false] at this
            omega
          obtain ⟨_, rfl⟩ : (kk = 0 ∨ kk = 2 ∨ kk = 5 ∨ kk = 8) ∧ r = (x.length : Int) :: (x ++ t) := by
            rcases hrd with h | ⟨h, _⟩ | ⟨h, _⟩
            · exact h
            · omega
            · omega
          have e16 := e15.trans e6
          have hp6 := ex_l e16 hp'
          have hl2 : l = (pre ++ [((kk : Nat) : Int), (x.length : Int)]) ++ (x ++ t) := by rw [hl, List.append_assoc]; rfl
          have hat1 : (l.map V.int)[pre.length + 1]? = some (V.int (x.length : Nat)) := by
            rw [List.getElem?_map, hl, List.getElem?_append_right (by omega), show pre.length + 1 - pre.length = 1 by omega]
            rfl
          have hmap : l.map V.int = (pre ++ [((kk : Nat) : Int), (x.length : Int)]).map V.int ++ (x.map V.int ++ t.map V.int) := by rw [hl2, List.map_append, List.map_append (l₁ := x)]
          have hcut : cutV (l.map V.int) (some (((pre.length : Nat) : Int) + 1 + 1)) (some (((pre.length : Nat) : Int) + 1 + 1 + ((x.length : Nat) : Int))) = x.map V.int := by
            have := cut_mid ((pre ++ [((kk : Nat) : Int), (x.length : Int)]).map V.int) (x.map V.int) (t.map V.int)
            rw [← hmap] at this
            rw [← this]
            have l1 : ((pre ++ [((kk : Nat) : Int), (x.length : Int)]).map V.int).length = pre.length + 2 := by rw [List.length_map, List.length_append]; rfl
            rw [l1, List.length_map]
            congr 2 <;> omega
          refine q_asgL (xs := x.map V.int) (by
            rw [← hcut]
            exact el_sl (ev_var rfl) (eo_some (ev_op (ev_var rfl) ev_c rv_I0)) (eo_some (ev_op (ev_op (ev_var rfl) ev_c rv_I0) (ev_op (ev_var rfl) (ev_var rfl) (rv_ixL hp6 (by
              show atI (l.map V.int) ((pre.length + 1 : Nat) : Int) = _
              exact atI_nat hat1))) rv_I0)) hp6) fun gq H7 ngq e7 hgq => ?_
          refine s_asg (ev_op (ev_op (ev_var rfl) ev_c rv_I0) (ev_len (ev_var rfl) (sq_of hgq)) rv_I0) fun H8 e8 => ?_
          have e18 := (e16.trans e7).trans e8
          refine ans_done (pre' := pre ++ ((kk : Nat) : Int) :: (x.length : Int) :: x) (t := t) ?_ nd nfo nfd (eN.trans (ExtN.of e18)) (T'.ex e18) (D'.ex (hide_ex e18)) (e18 _ _ hfo') hk8 hpre hz hc2 (fun c hc => hask' c (List.mem_cons_of_mem _ hc)) hans2 (e8 _ _ hgq) (nqf e16 ngq) (by rw [hl, List.append_assoc]; rfl) (by rw [List.length_cons, List.length_cons, List.length_append]; omega) fun σ2 H2 q => q
          rw [List.length_map, List.length_append, List.length_cons, List.length_cons]
          omega
        · have e16 := e15.trans e6
          have hp6 := ex_l e16 hp'
          have hnm : ¬ (kk = 0 ∨ kk = 2 ∨ kk = 5 ∨ kk = 8) := fun z => by
            have := of_decide_eq_false hb6
            simp only [List.mem_cons, List.not_mem_nil, or_false] at this
            omega
          refine s_when (b := decide (V.int (kk : Nat) = V.int 7)) (et_test (ev_op (ev_var rfl) ev_c (rv_eq rfl))) (fun hb7 H7 e7 => ?_) (fun hb7 H7 e7 => ?_)
          · have hk7 : kk = 7 := by
              have := V.int.inj (of_decide_eq_true hb7)
              omega
            obtain ⟨g, rfl, rfl⟩ : ∃ g, x = [g] ∧ r = g :: t := by
              rcases hrd with ⟨h, _⟩ | ⟨_, h⟩ | ⟨h, _⟩
              · exact absurd h hnm
              · exact h
              · omega
            have e17 := e16.trans e7
            have hp7 := ex_l e17 hp'
            have hat1 : (l.map V.int)[pre.length + 1]? = some (V.int g) := by
              rw [List.getElem?_map, hl, List.getElem?_append_right (by omega), show pre.length + 1 - pre.length = 1 by omega]
              rfl
            refine q_asgL (xs := [V.int g]) (el_lst (ea_cons (ev_op (ev_var rfl) (ev_var rfl) (rv_ixL hp7 (by
              show atI (l.map V.int) ((pre.length + 1 : Nat) : Int) = _
              exact atI_nat hat1))) ea_nil) (by show (1 : Nat) ≤ 100000; decide)) fun gq H8 ngq e8 hgq => ?_
            refine s_aug rfl ev_c fun H9 e9 => ?_
            have e19 := (e17.trans e8).trans e9
            refine ans_done (pre' := pre ++ [((kk : Nat) : Int), g]) (t := t) ?_ nd nfo nfd (eN.trans (ExtN.of e19)) (T'.ex e19) (D'.ex (hide_ex e19)) (e19 _ _ hfo') hk8 hpre hz hc2 (fun c hc => hask' c (List.mem_cons_of_mem _ hc)) hans2 (e9 _ _ hgq) (nqf e17 ngq) (by rw [hl, List.append_assoc]; rfl) (by rw [List.length_cons, List.length_cons]; omega) fun σ2 H2 q => q
            rw [List.length_append, List.length_cons, List.length_cons, List.length_nil]
            show (((pre.length : Nat) : Int) + 1) + 1 = _
            omega
          · have hk7 : kk ≠ 7 := fun z => of_decide_eq_false hb7 (by rw [z]; rfl)
            obtain ⟨rfl, rfl⟩ : x = [] ∧ r = t := by
              rcases hrd with ⟨h, _⟩ | ⟨h, _⟩ | ⟨_, h⟩
              · exact absurd h hnm
              · exact absurd h hk7
              · exact h
            have e17 := e16.trans e7
            refine ans_done (pre' := pre ++ [((kk : Nat) : Int)]) (t := r) ?_ nd nfo nfd (eN.trans (ExtN.of e17)) (T'.ex e17) (D'.ex (hide_ex e17)) (e17 _ _ hfo') hk8 hpre hz hc2 (fun c hc => hask' c (List.mem_cons_of_mem _ hc)) hans2 (((e5.trans e6).trans e7) _ _ hq0) (nqf e1 nq0) (by rw [hl, List.append_assoc]; rfl) (by rw [List.length_cons]; omega) fun σ2 H2 q => q
            rw [List.length_append, List.length_cons, List.length_nil]
            show (((pre.length : Nat) : Int) + 1) = _
            omega
    · have hge : r = [] := by
        cases r with
        | nil => rfl
        | cons p0 r =>
          have := of_decide_eq_false hb
          rw [List.length_map, hl, List.length_append, List.length_cons] at this
          omega
      subst hge
      have hcs0 : cs' = [] := by
        cases f <;> (cases hcs'; rfl)
      subst hcs0
      have hans3 : PyVamvsd.answers l = F := hans'.trans (List.append_nil F)
      exact s_ret (ev_var rfl) fun H5 e5 => k fo H5 (by rw [hans3]; exact e5 _ _ (e1 _ _ hfo'))
end
end BA

namespace BA
open PySem PySem.W PySem.Spec PyProof.Rows L2 LamX Evl

/-! ### the row's end, one code table told -/
mutual
theorem dw_ex {K : PySem.W.Frag} {H H' : Hp} (e : Ex H H') : ∀ {v : V} {d : PySem.W.WData}, Dw K H v d → Dw K H' v d
  | _, _, .non => .non
  | _, _, .bl b => .bl b
  | _, _, .int i => .int i
  | _, _, .str x => .str x
  | _, _, .byt b => .byt b
  | _, _, .lst h1 h2 => .lst (ex_l e h1) (dwAll_ex e h2)
  | _, _, .tup h1 h2 => .tup (ex_t e h1) (dwAll_ex e h2)
theorem dwAll_ex {K : PySem.W.Frag} {H H' : Hp} (e : Ex H H') : ∀ {vs : List V} {ds : List PySem.W.WData}, DwAll K H vs ds → DwAll K H' vs ds
  | _, _, .nil => .nil
  | _, _, .cons h1 h2 => .cons (dw_ex e h1) (dwAll_ex e h2)
end
theorem spec_callT {P : Program} {w : World} {K : PySem.W.Frag} {mg mb : Str → Option Value} {CX : CXT} {k : Nat} {fa c tp : Addr} {ps : List Str} {sp : Sp} {s₁ : Shared} {vals : List Value} {ds : List WData} {R : PySem.W.WRecords} {cl : Str → Option Addr} {d0 : WData}
    (KX : K.In s₁.heap) (hns : s₁.heap.Ns mainGlobals mg) (hb : s₁.heap.Ns builtinsNs mb) (hbb : ∀ x : Str, x ≠ "__name__" → mb x = bootBuiltins x) (hlim : s₁.heap.NoLimit) (hg : s₁.gens = #[])
    (hP : s₁.heap.get? tp = some { cls := .none, data := .fields #[] }) (nP : K.lookup tp = none) (C : PySem.W.CodeHd s₁.heap c tp)
    (hbm : ∃ (bm : Addr) (ob : Obj), mg "__builtins__" = some (.ref bm) ∧ bm ≠ builtinsNs ∧ s₁.heap.get? bm = some ob ∧ ob.cls = .type "module" ∧ ob.dict = some builtinsNs ∧ ob.data = .plain)
    (hwl : WellAll w.params s₁.heap vals ds) (hpl : plWs ds = true) (hwt : ∀ d ∈ ds, d.weight ≤ 1048576) (hr : Room k callerA)
    (F : ∀ base : Heap, K.In base → base.Ns mainGlobals mg → TabB base mg c tp → ∃ fd : FuncData, FnOk P w K mg base CX k fa fd ps sp ∧ L2.Binds K fd ps []) (hlen : ds.length = ps.length)
    (hsp : ∀ (H : Hp) (xs : List V), H tp = some (.tbl #[]) → DwAll K H xs ds → sp xs H (fun v H' => Dw K H' v d0) fun _ _ _ => False)
    (hCX : ∀ H e s', CX [] H s₁ (fun _ _ _ => False) e s' → False) :
    codeAny (model P w) callerA (.call (.ref fa) ⟨vals, []⟩) (fun r s' => ∃ u as, r = .ok (.ret u) ∧ ReadsW R cl s'.heap u d0 as ∧ OldK s₁.heap s'.heap ∧ s'.os = s₁.os ∧ AllBare s'.gens) s₁ := by
  obtain ⟨A, ho, ar⟩ := area_all ds vals hwl hpl hwt
  have hok0 : HOk P w (argH K s₁.heap A) s₁.heap := argH_ok ar
  have hS0 := dw_all KX ar ds vals hwl hpl ho
  have hV := vals_toV ho
  -- what is tracked: lists and tuples of the arguments
  have isq : ∀ b u, argH K s₁.heap A b = some u → K.lookup b = none ∧ ∃ (o : Obj) (x : HO) (c : Value) (vs : List Value), u = .frz o x ∧ s₁.heap.get? b = some { cls := c, data := .seq vs.toArray } := fun b u q => by
    obtain ⟨h1, vs, _, _, ⟨e2, e3⟩ | ⟨e2, e3⟩⟩ := argH_is ar q
    · exact ⟨h1, _, _, _, vs, e3, e2⟩
    · exact ⟨h1, _, _, _, vs, e3, e2⟩
  generalize argH K s₁.heap A = H0 at hok0 hS0 isq
  have nT : H0 tp = none := by
    cases q : H0 tp with
    | none => rfl
    | some u =>
      obtain ⟨_, _, _, _, vs, _, e⟩ := isq _ _ q
      rw [hP] at e
      cases e
  have eH : Ex H0 (upd H0 tp (.tbl #[])) := Ex.new nT
  have hok : HOk P w (upd H0 tp (.tbl #[])) s₁.heap := HOk.laidN hok0 (fun _ _ e => e) nT hP
  have hS : DwAll K (upd H0 tp (.tbl #[])) (vals.map toV) ds := dwAll_ex eH hS0
  have hT : upd H0 tp (.tbl #[]) tp = some (.tbl #[]) := upd_same
  have isH : ∀ b u, upd H0 tp (.tbl #[]) b = some u → (b = tp ∧ u = .tbl #[]) ∨ (b ≠ tp ∧ H0 b = some u) := fun b u e => by
    by_cases h : b = tp
    · rw [h, upd_same] at e
      exact .inl ⟨h, (Option.some.inj e).symm⟩
    · rw [upd_ne h] at e
      exact .inr ⟨h, e⟩
  generalize upd H0 tp (.tbl #[]) = H at hok hS hT isH
  have base_of : ∀ {b : Addr} {o : Obj}, s₁.heap.get? b = some o → H b = none → (hidT s₁.heap H).get? b = some o := fun e n => hidT_get e n
  have noD : ∀ {b : Addr} {o : Obj}, s₁.heap.get? b = some o → (∀ vs n, o.data ≠ .seq vs n) → o.data ≠ .fields #[] → H b = none := fun {b o} e h1 h2 => by
    cases q : H b with
    | none => rfl
    | some u =>
      rcases isH b u q with ⟨z, _⟩ | ⟨_, z⟩
      · rw [z, hP] at e
        cases e
        exact (h2 rfl).elim
      · obtain ⟨_, _, _, _, vs, _, e2⟩ := isq _ _ z
        rw [e2] at e
        cases e
        exact (h1 _ _ rfl).elim
  have noA : ∀ {b : Addr} {o : Obj} {es : Array DictEntry} {ep : Nat}, s₁.heap.get? b = some o → o.data = .dict es ep → H b = none := fun {b o es ep} e d => noD e (fun vs n z => by rw [d] at z; cases z) fun z => by rw [d] at z; cases z
  have nsK : ∀ {b : Addr} {m : Str → Option Value}, s₁.heap.Ns b m → (hidT s₁.heap H).Ns b m := fun {b m} ⟨o, es, ep, e, d, r⟩ => ⟨o, es, ep, base_of e (noA e d), d, r⟩
  have nK : ∀ b o, K.lookup b = some o → H b = none := fun b o e => by
    cases q : H b with
    | none => rfl
    | some u =>
      rcases isH b u q with ⟨z, _⟩ | ⟨_, z⟩
      · rw [z, nP] at e
        cases e
      · rw [(isq _ _ z).1] at e
        cases e
  have hKb : K.In (hidT s₁.heap H) := fun b o e => base_of (KX b o e) (nK b o e)
  have hM : L2.Mod K mg (hidT s₁.heap H) := ⟨hKb, nsK hns, ⟨mb, nsK hb, hbb⟩, let ⟨mc, h1, h2⟩ := hlim; ⟨mc, nsK h1, h2⟩⟩
  have TB : TabB (hidT s₁.heap H) mg c tp := by
    refine ⟨?_, ?_, fun z => ?_⟩
    · obtain ⟨o, us, file, tf, flags, tg, inF, text, tt, e1, r1, r2, r3, r4, r5, r6, r7, r8, hne⟩ := C
      refine ⟨o, us, file, tf, flags, tg, inF, text, tt, base_of e1 (noD e1 (fun vs n z => ?_) fun z => ?_), r1, r2, r3, r4, r5, r6, r7, r8, hne⟩
      · rw [r2] at z; cases z
      · rw [r2] at z; cases z; simp at r3
    · obtain ⟨bm, ob, b1, b2, b3, b4, b5, b6⟩ := hbm
      refine ⟨bm, ob, b1, b2, fun q => ?_, fun q => ?_, base_of b3 (noD b3 (fun vs n z => ?_) fun z => ?_), b4, b5, b6⟩
      · obtain ⟨o, es, ep, e, hd, _⟩ := hns
        rw [q, e] at b3
        cases b3
        rw [hd] at b6
        cases b6
      · rw [q, hP] at b3
        cases b3
        cases b6
      · rw [b6] at z; cases z
      · rw [b6] at z; cases z
    · obtain ⟨o, es, ep, e, hd, _⟩ := hns
      rw [z, hP] at e
      cases e
      cases hd
  have e0 : Env0 P w K mg (hidT s₁.heap H) callerA [] s₁ H := ⟨rfl, hM, fun b o e => of_hidT e, Nat.le_of_eq (hidT_size _ _), trivial, fun b hb => absurd (show b ∈ ([] : List Addr) from hb) (by simp), hok, .of_eq hg⟩
  have hl : vals.length = ps.length := by rw [wellAll_len hwl]; exact hlen
  obtain ⟨fd, Fk, Fb⟩ := F _ hKb (nsK hns) TB
  have hbd := Fb s₁ vals KX (by rw [List.append_nil]; exact hl)
  rw [List.append_nil] at hbd
  refine codeAny_mono (Fk.run callerA [] s₁ H ⟨vals, []⟩ vals (vals.map toV) _ _ hr e0 hbd hV (hsp H _ hT hS)) fun r s' x => ?_
  cases r with
  | error e => exact (hCX H e s' x).elim
  | ok fl =>
    cases fl with
    | next => exact False.elim x
    | brk => exact False.elim x
    | cont => exact False.elim x
    | ret u =>
      obtain ⟨v, H', os, bare, un, hok', r', q⟩ := x
      have key : ∀ b o, b ≠ tp → s₁.heap.get? b = some o → s'.heap.get? b = some o := fun b o nb e => by
        cases q2 : H b with
        | none => exact un.keep b o e q2 (fun z => by cases z) (by simp)
        | some u2 =>
          rcases isH b u2 q2 with ⟨z, _⟩ | ⟨_, z⟩
          · exact absurd z nb
          · obtain ⟨_, ob, x, _, _, e3, _⟩ := isq _ _ z
            subst e3
            have z2 := un.frzs b ob _ q2
            obtain ⟨e1, _⟩ := hok b _ q2
            obtain ⟨e2, _⟩ := hok' b _ z2
            rw [e] at e1
            cases e1
            exact e2
      obtain ⟨more, hm⟩ : ∃ more : Array Value, s'.heap.get? tp = some { cls := .none, data := .fields more } := by
        obtain ⟨more, z⟩ := un.tbls tp #[] hT
        exact ⟨_, hok' tp _ z⟩
      have KX' : K.In s'.heap := fun b o e => key b o (fun z => by rw [z, nP] at e; cases e) (KX b o e)
      obtain ⟨as, hrd⟩ := Dw.reads (R := R) (cl := cl) hok' KX' d0 v u q r'
      refine ⟨u, as, rfl, hrd, ⟨fun b o e => ?_, fun b o e => ?_⟩, os, bare⟩
      · by_cases hb : b = tp
        · subst hb
          rw [hP] at e
          cases e
          exact .inr (.inl ⟨(C.tab hP).isCodeTable, rfl, #[], more, rfl, by rw [Array.empty_append]; exact hm⟩)
        · exact .inl (key b o hb e)
      · by_cases hb : b = tp
        · subst hb
          exact ⟨_, hm⟩
        · exact ⟨o, key b o hb e⟩
theorem walk_specT {r : OpenSpec} {k : Nat} {q : Program} {loose : List Str} {XP : (Str → Option Value) → Heap → Prop} {YP : World → Heap → Prop} {d d0 : DefRec} {x0 : Str} {K : Params → PySem.W.Frag} {CX : World → CXT} {ps : List Str}
    (hwell : r.wellSaid = true) (hdf : d.params.defaults = []) (hlen : r.args.length = ps.length) (hr : Room k callerA) (hrec : (recsOf q).find? (fun e => e.name == x0) = some d0)
    (hY : ∀ (w : World) (h : Heap), YP w h → (K w.params).In h)
    (F : ∀ (w : World) (mg : Str → Option Value) (fa : Addr) (h : Heap), YP w h → (K w.params).In h → h.Ns mainGlobals mg → mg d.name = some (.ref fa) →
      ∃ (c tp : Addr) (sp : Sp), PySem.W.tabIn (K w.params) x0 = some (c, tp) ∧ (K w.params).lookup tp = none ∧
        (∀ (H : Hp) (xs : List V) (a : Codec.denoteAll r.args), H tp = some (.tbl #[]) → Codec.app r.args r.asked a = true → DwAll (K w.params) H xs (Codec.encAll r.args a) → sp xs H (fun v H' => Dw (K w.params) H' v (r.ret.enc (Codec.app r.args r.f a))) fun _ _ _ => False) ∧
        ∀ base : Heap, (K w.params).In base → base.Ns mainGlobals mg → TabB base mg c tp → ∃ fd : FuncData, FnOk r.prog w (K w.params) mg base (CX w) k fa fd ps sp ∧ L2.Binds (K w.params) fd ps [])
    (hCX : ∀ (w : World) (H : Hp) (s : Shared) (e : Value) (s' : Shared), CX w [] H s (fun _ _ _ => False) e s' → False) :
    PySem.W.WalkOS q loose XP YP r d [] (fun f vs => PySem.call f vs) := by
  intro w s₀ s₁ mg mb G Y fa o pm cd doc dV kV ho hd hcd hD hmg hg args vals as hpre hlay hrd hwl hlo
  obtain ⟨a, e1, e2⟩ := PySem.W.os_pre_some hpre
  obtain ⟨e3, hwi⟩ := Codec.encAll_of_decAll r.args args a e1
  subst e3
  have KX := hY w _ Y
  obtain ⟨c, tp, sp, ht, nP, hsp, hF⟩ := F w mg fa _ Y KX G.T.g hmg
  obtain ⟨C, hP⟩ := PySem.W.tab_of G.T KX hrec ht
  refine PySem.W.enter_call (codeAny_mono (spec_callT (R := []) (cl := classAt s₀.heap) (d0 := r.ret.enc (Codec.app r.args r.f a)) KX G.T.g G.T.b G.T.builtins G.T.nolimit hg hP nP C G.T.bmain hwl (pl_encAll _ _) (layable_weight hlay) hr hF (by rw [encAll_len]; exact hlen)
    (fun H xs hT hS => hsp H xs a hT e2 hS) fun H e s' => hCX w H s₁ e s') fun r' s' hq => ?_)
  obtain ⟨u, as', rfl, h1, h2, h3, h4⟩ := hq
  exact ⟨.inl ⟨u, _, as', rfl, fun _ => rfl, h1, (OpenSpec.post_iff hwell hwi _ _).mpr rfl, fun z => Bool.noConfusion (show false = true from z)⟩, h2, h3, h4⟩
/-- the promise of the row's def -/
theorem fin_mk {w : World} {K : PySem.W.Frag} {mg : Str → Option Value} {a : Ad} {fa f c tp : Addr} {oc : Value} {od an : Option Addr} {osl : Array (Option Value)} {kV doc pm ct : Value} (T : Txt K mg a) (hmg : mg "answers" = some (.ref fa)) (hf : a.f_plan_with = f)
    (l : K.lookup f = some ⟨oc, od, .func (PySem.W.fnOf "plan_with" "plan_with" (defArgs s_plan_with) (defBody s_plan_with) (defScope s_plan_with) .none kV doc pm an (.ref c) ct), osl⟩) (co : PySem.W.codeIn K (.ref c) "plan_with" = true) (kp : PySem.W.keepIn K (.ref f) = true)
    (ht : PySem.W.tabIn K "plan_with" = some (c, tp)) (nP : K.lookup tp = none) :
    ∃ (c tp : Addr) (sp : Sp), PySem.W.tabIn K "plan_with" = some (c, tp) ∧ K.lookup tp = none ∧
        (∀ (H : Hp) (xs : List V) (a : Codec.denoteAll PySem.Challenge.rw_buildanswers_s01_answers.args), H tp = some (.tbl #[]) → Codec.app PySem.Challenge.rw_buildanswers_s01_answers.args PySem.Challenge.rw_buildanswers_s01_answers.asked a = true → DwAll K H xs (Codec.encAll PySem.Challenge.rw_buildanswers_s01_answers.args a) →
          sp xs H (fun v H' => Dw K H' v (PySem.Challenge.rw_buildanswers_s01_answers.ret.enc (Codec.app PySem.Challenge.rw_buildanswers_s01_answers.args PySem.Challenge.rw_buildanswers_s01_answers.f a))) fun _ _ _ => False) ∧
        ∀ base : Heap, K.In base → base.Ns mainGlobals mg → TabB base mg c tp → ∃ fd : FuncData, FnOk PySem.Challenge.rw_buildanswers_s01_answers.prog w K mg base (L2.CX PySem.Challenge.rw_buildanswers_s01_answers.prog w) 10 fa fd ["calls"] sp ∧ L2.Binds K fd ["calls"] [] := by
  subst hf
  have e := T.m_answers
  rw [hmg] at e
  cases e
  refine ⟨c, tp, sp_answers K a tp, ht, nP, fun H xs ar hT hask hD => ?_, fun base hK hN TB => ?_⟩
  · obtain ⟨l, ⟨⟩⟩ := ar
    have hask : PyVamvsd.answers_asked l = true := hask
    unfold PyVamvsd.answers_asked at hask
    cases hc : PyFlat.calls PyVamvsd.shape l.length l with
    | none => rw [hc] at hask; cases hask
    | some raw =>
      rw [hc] at hask
      have hask : ((((!raw.isEmpty && PyFlat.atMost 20 raw) && PyInside.calls PyVamvsd.bound raw) && VamvsdNeutral.asked (raw.map PyVamvsd.whole)) && PyFlat.short 10000000 (PyVamvsd.answers l)) = true := hask
      rw [Bool.and_eq_true, Bool.and_eq_true] at hask
      obtain ⟨⟨_, h4⟩, h5⟩ := hask
      unfold VamvsdNeutral.asked at h4
      rw [Bool.and_eq_true, List.all_eq_true] at h4
      cases hD with
      | cons h1 h2 =>
        cases h2
        rename_i v
        have h1 : Dw K H v (.list (l.map PySem.W.WData.int)) := h1
        cases h1 with
        | lst hs ha =>
          rw [ints_dw l _ ha] at hs
          exact ⟨_, l, raw, rfl, hs, fun q hq => by rw [List.mem_singleton.mp hq]; exact TabS.nil hT, hc, fun x hx => h4.1 _ (List.mem_map_of_mem hx), of_decide_eq_true h5, fun r H' h' => Dw.lst (sq_of h') (dw_ints _)⟩
  · have G := ok_answers (P := PySem.Challenge.rw_buildanswers_s01_answers.prog) (w := w) (base := base) T ⟨_, ⟨L2.fun_mk (st := s_plan_with) l co kp, ⟨_, _, _, _, _, _, _, _, rfl, l, co⟩⟩⟩ TB
    exact G.ex
end BA

open PySem PySem.W PyProof.Rows
set_option maxRecDepth 100000 in
set_option maxHeartbeats 8000000 in
theorem PySem.Challenge.cw_buildanswers_s01_answers_holds : PySem.Challenge.rw_buildanswers_s01_answers.Holds := by
  w_on; k_headS; (case hw => exact ⟨[.list [.int 1]], by decide +kernel, by decide +kernel⟩)
  k_fillS
  refine BA.walk_specT (r := PySem.Challenge.rw_buildanswers_s01_answers) (k := 10) (CX := fun w => L2.CX PySem.Challenge.rw_buildanswers_s01_answers.prog w) (ps := ["calls"]) (x0 := "plan_with") (by decide +kernel) rfl rfl ⟨rfl, by decide, by decide⟩ rfl (fun w h Y => PySem.W.kIn_of Y) ?F (fun _ _ _ _ _ z => by obtain ⟨_, _, _, _, _, _, _, _, _, _, _, _, q⟩ := z; exact q)
  case F =>
    intro w mg fa h Y KX G hmg
    refine' BA.fin_mk (BA.txt_mk KX G ?h_m_MOST_NAME ?h_m_MOST_NUMBER ?h_m_NO_TOKEN ?h_m_LINE ?h_m_REMARK ?h_m_MOST_BYTES ?h_m_MOST_COLUMNS ?h_m_MOST_ROWS ?h_m_MOST_QUESTIONS ?h_m_MOST_VALUE ?h_m_MOST_SUM ?h_m_MOST_TIMES ?h_m_TOO_LONG ?h_m_NOT_ALLOWED ?h_m_TOO_MANY ?h_m_NAMED ?h_m_TWICE ?h_m_OUT ?h_m_NO_COLUMN ?h_m_TABLE ?h_m_DROPPED ?h_m_MOST_HELPERS ?h_m_NO_TABLE ?h_m_NO_GROUPING ?h_m_IS_WISHED ?h_m_NO_PLAN ?h_m_LOAD ?h_m_WITH_NUMBER ?h_m_NAME ?h_m_NUMBER ?h_m_WORD ?h_m_SIGN ?h_m_END ?h_m_BLANKS ?h_t_BLANKS ?h_m_WORDS ?h_t_WORDS ?h_m_WEIGHTS ?h_t_WEIGHTS ?h_m_WITH_ROW ?h_t_WITH_ROW ?h_m_SIGNS ?h_d_SIGNS ?h_s_SIGNS ?h_m_DEEDS ?h_d_DEEDS ?h_s_DEEDS ?h_b_tuple ?h_b_ord ?h_b_len ?h_b_range ?h_b_enumerate ?h_b_list ?h_b_str ?h_b_sum ?h_b_sorted ?h_b_all ?h_b_set ?h_b_max ?h_b_any ?h_b_int ?h_m_Fault ?h_xl_Fault ?h_xs_Fault ?h_xg_Fault ?h_xt_Fault ?h_xe_Fault ?h_xy_Fault ?h_xh_Fault ?h_xk_Fault ?h_xi_Fault ?h_xx_Fault ?h_xn_Fault_code ?h_xn_Fault_place ?h_xj_Fault ?h_xf_Fault ?h_l_Fault_init ?h_o_Fault_init ?h_k_Fault_init ?h_m_Token ?h_ca_Token ?h_cb_Token ?h_cd_Token ?h_ce_Token ?h_cm_Token ?h_ci_Token ?h_cf_Token ?h_ck_Token ?h_n_Token_kind ?h_n_Token_value ?h_n_Token_place ?h_m_Table ?h_ca_Table ?h_cb_Table ?h_cd_Table ?h_ce_Table ?h_cm_Table ?h_ci_Table ?h_cf_Table ?h_ck_Table ?h_n_Table_columns ?h_n_Table_rows ?h_n_Table_questions ?h_ma_Table_groupings ?h_mb_Table_groupings ?h_m_Parser ?h_ca_Parser ?h_cb_Parser ?h_cd_Parser ?h_ce_Parser ?h_cm_Parser ?h_ci_Parser ?h_cf_Parser ?h_ck_Parser ?h_n_Parser_tokens ?h_n_Parser_at ?h_n_Parser_table ?h_ma_Parser_here ?h_mb_Parser_here ?h_ma_Parser_fail_if ?h_mb_Parser_fail_if ?h_ma_Parser_comes ?h_mb_Parser_comes ?h_ma_Parser_take ?h_mb_Parser_take ?h_ma_Parser_passes ?h_mb_Parser_passes ?h_ma_Parser_take_number ?h_mb_Parser_take_number ?h_ma_Parser_take_column ?h_mb_Parser_take_column ?h_ma_Parser_take_columns ?h_mb_Parser_take_columns ?h_ma_Parser_take_row ?h_mb_Parser_take_row ?h_ma_Parser_take_group ?h_mb_Parser_take_group ?h_ma_Parser_take_question ?h_mb_Parser_take_question ?h_ma_Parser_take_table ?h_mb_Parser_take_table ?h_m_Sizes ?h_ca_Sizes ?h_cb_Sizes ?h_cd_Sizes ?h_ce_Sizes ?h_cm_Sizes ?h_ci_Sizes ?h_cf_Sizes ?h_ck_Sizes ?h_n_Sizes_rows ?h_n_Sizes_lines ?h_ma_Sizes_smallest ?h_mb_Sizes_smallest ?h_ma_Sizes_parent_in ?h_mb_Sizes_parent_in ?h_ma_Sizes_read_from ?h_mb_Sizes_read_from ?h_ma_Sizes_build_cost ?h_mb_Sizes_build_cost ?h_ma_Sizes_cost_together ?h_mb_Sizes_cost_together ?h_ma_Sizes_total ?h_mb_Sizes_total ?h_m_Played ?h_ca_Played ?h_cb_Played ?h_cd_Played ?h_ce_Played ?h_cm_Played ?h_ci_Played ?h_cf_Played ?h_ck_Played ?h_n_Played_sizes ?h_n_Played_steps ?h_n_Played_cost ?h_n_Played_most ?h_n_Played_there ?h_ma_Played_play ?h_mb_Played_play ?h_m_Refused ?h_xl_Refused ?h_xs_Refused ?h_xg_Refused ?h_xt_Refused ?h_xe_Refused ?h_xy_Refused ?h_xh_Refused ?h_xk_Refused ?h_xi_Refused ?h_xx_Refused ?h_xn_Refused_number ?h_xj_Refused ?h_xf_Refused ?h_l_Refused_init ?h_o_Refused_init ?h_k_Refused_init ?h_m_Desk ?h_ca_Desk ?h_cb_Desk ?h_cd_Desk ?h_ce_Desk ?h_cm_Desk ?h_ci_Desk ?h_cf_Desk ?h_ck_Desk ?h_n_Desk_table ?h_n_Desk_sizes ?h_n_Desk_wished ?h_l_Token_init ?h_o_Token_init ?h_k_Token_init ?h_m_signs_of ?h_l_signs_of ?h_o_signs_of ?h_k_signs_of ?h_m_is_digit ?h_l_is_digit ?h_o_is_digit ?h_k_is_digit ?h_m_is_letter ?h_l_is_letter ?h_o_is_letter ?h_k_is_letter ?h_m_behind_blanks ?h_l_behind_blanks ?h_o_behind_blanks ?h_k_behind_blanks ?h_m_behind_name ?h_l_behind_name ?h_o_behind_name ?h_k_behind_name ?h_m_behind_digits ?h_l_behind_digits ?h_o_behind_digits ?h_k_behind_digits ?h_m_name_token ?h_l_name_token ?h_o_name_token ?h_k_name_token ?h_m_number_token ?h_l_number_token ?h_o_number_token ?h_k_number_token ?h_m_tokens_of ?h_l_tokens_of ?h_o_tokens_of ?h_k_tokens_of ?h_l_Table_init ?h_o_Table_init ?h_k_Table_init ?h_l_Table_groupings ?h_o_Table_groupings ?h_k_Table_groupings ?h_l_Parser_init ?h_o_Parser_init ?h_k_Parser_init ?h_l_Parser_here ?h_o_Parser_here ?h_k_Parser_here ?h_l_Parser_fail_if ?h_o_Parser_fail_if ?h_k_Parser_fail_if ?h_l_Parser_comes ?h_o_Parser_comes ?h_k_Parser_comes ?h_l_Parser_take ?h_o_Parser_take ?h_k_Parser_take ?h_l_Parser_passes ?h_o_Parser_passes ?h_k_Parser_passes ?h_l_Parser_take_number ?h_o_Parser_take_number ?h_k_Parser_take_number ?h_l_Parser_take_column ?h_o_Parser_take_column ?h_k_Parser_take_column ?h_l_Parser_take_columns ?h_o_Parser_take_columns ?h_k_Parser_take_columns ?h_l_Parser_take_row ?h_o_Parser_take_row ?h_k_Parser_take_row ?h_l_Parser_take_group ?h_o_Parser_take_group ?h_k_Parser_take_group ?h_l_Parser_take_question ?h_o_Parser_take_question ?h_k_Parser_take_question ?h_l_Parser_take_table ?h_o_Parser_take_table ?h_k_Parser_take_table ?h_m_read_table ?h_l_read_table ?h_o_read_table ?h_k_read_table ?h_m_with_commas ?h_l_with_commas ?h_o_with_commas ?h_k_with_commas ?h_m_line_of ?h_l_line_of ?h_o_line_of ?h_k_line_of ?h_m_columns_in ?h_l_columns_in ?h_o_columns_in ?h_k_columns_in ?h_m_one_form ?h_l_one_form ?h_o_one_form ?h_k_one_form ?h_m_size_of ?h_l_size_of ?h_o_size_of ?h_k_size_of ?h_m_has_all ?h_l_has_all ?h_o_has_all ?h_k_has_all ?h_m_is_above ?h_l_is_above ?h_o_is_above ?h_k_is_above ?h_m_column_count ?h_l_column_count ?h_o_column_count ?h_k_column_count ?h_m_helper_number ?h_l_helper_number ?h_o_helper_number ?h_k_helper_number ?h_l_Sizes_init ?h_o_Sizes_init ?h_k_Sizes_init ?h_l_Sizes_smallest ?h_o_Sizes_smallest ?h_k_Sizes_smallest ?h_l_Sizes_parent_in ?h_o_Sizes_parent_in ?h_k_Sizes_parent_in ?h_l_Sizes_read_from ?h_o_Sizes_read_from ?h_k_Sizes_read_from ?h_l_Sizes_build_cost ?h_o_Sizes_build_cost ?h_k_Sizes_build_cost ?h_l_Sizes_cost_together ?h_o_Sizes_cost_together ?h_k_Sizes_cost_together ?h_l_Sizes_total ?h_o_Sizes_total ?h_k_Sizes_total ?h_m_sets_of ?h_l_sets_of ?h_o_sets_of ?h_k_sets_of ?h_m_best_helpers ?h_l_best_helpers ?h_o_best_helpers ?h_k_best_helpers ?h_m_plan_with ?h_l_plan_with ?h_o_plan_with ?h_k_plan_with ?h_l_Played_init ?h_o_Played_init ?h_k_Played_init ?h_l_Played_play ?h_o_Played_play ?h_k_Played_play ?h_l_Desk_init ?h_o_Desk_init ?h_k_Desk_init ?h_m_refuse_if ?h_l_refuse_if ?h_o_refuse_if ?h_k_refuse_if ?h_m_is_grouping ?h_l_is_grouping ?h_o_is_grouping ?h_k_is_grouping ?h_m_need_groupings ?h_l_need_groupings ?h_o_need_groupings ?h_k_need_groupings ?h_m_load ?h_l_load ?h_o_load ?h_k_load ?h_m_shown ?h_l_shown ?h_o_shown ?h_k_shown ?h_m_wish ?h_l_wish ?h_o_wish ?h_k_wish ?h_m_plain ?h_l_plain ?h_o_plain ?h_k_plain ?h_m_told_with ?h_l_told_with ?h_o_told_with ?h_k_told_with ?h_m_best ?h_l_best ?h_o_best ?h_k_best ?h_m_is_step ?h_l_is_step ?h_o_is_step ?h_k_is_step ?h_m_check ?h_l_check ?h_o_check ?h_k_check ?h_m_read_by ?h_l_read_by ?h_o_read_by ?h_k_read_by ?h_m_idle ?h_l_idle ?h_o_idle ?h_k_idle ?h_m_from_all ?h_l_from_all ?h_o_from_all ?h_k_from_all ?h_m_with_helpers ?h_l_with_helpers ?h_o_with_helpers ?h_k_with_helpers ?h_m_answered ?h_l_answered ?h_o_answered ?h_k_answered ?h_m_answers ?h_l_answers ?h_o_answers ?h_k_answers) hmg rfl ?h_zl ?h_zo ?h_zk ?h_zt ?h_zn
    (case h_m_MOST_NAME => k_is)
    (case h_m_MOST_NUMBER => k_is)
    (case h_m_NO_TOKEN => k_is)
    (case h_m_LINE => k_is)
    (case h_m_REMARK => k_is)
    (case h_m_MOST_BYTES => k_is)
    (case h_m_MOST_COLUMNS => k_is)
    (case h_m_MOST_ROWS => k_is)
    (case h_m_MOST_QUESTIONS => k_is)
    (case h_m_MOST_VALUE => k_is)
    (case h_m_MOST_SUM => k_is)
    (case h_m_MOST_TIMES => k_is)
    (case h_m_TOO_LONG => k_is)
    (case h_m_NOT_ALLOWED => k_is)
    (case h_m_TOO_MANY => k_is)
    (case h_m_NAMED => k_is)
    (case h_m_TWICE => k_is)
    (case h_m_OUT => k_is)
    (case h_m_NO_COLUMN => k_is)
    (case h_m_TABLE => k_is)
    (case h_m_DROPPED => k_is)
    (case h_m_MOST_HELPERS => k_is)
    (case h_m_NO_TABLE => k_is)
    (case h_m_NO_GROUPING => k_is)
    (case h_m_IS_WISHED => k_is)
    (case h_m_NO_PLAN => k_is)
    (case h_m_LOAD => k_is)
    (case h_m_WITH_NUMBER => k_is)
    (case h_m_NAME => k_is)
    (case h_m_NUMBER => k_is)
    (case h_m_WORD => k_is)
    (case h_m_SIGN => k_is)
    (case h_m_END => k_is)
    (case h_m_BLANKS => k_is)
    (case h_t_BLANKS => k_is)
    (case h_m_WORDS => k_is)
    (case h_t_WORDS => k_is)
    (case h_m_WEIGHTS => k_is)
    (case h_t_WEIGHTS => k_is)
    (case h_m_WITH_ROW => k_is)
    (case h_t_WITH_ROW => k_is)
    (case h_m_SIGNS => k_is)
    (case h_d_SIGNS => k_is)
    (case h_s_SIGNS => first | rfl | decide +kernel)
    (case h_m_DEEDS => k_is)
    (case h_d_DEEDS => k_is)
    (case h_s_DEEDS => first | rfl | decide +kernel)
    (case h_b_tuple => k_is)
    (case h_b_ord => k_is)
    (case h_b_len => k_is)
    (case h_b_range => k_is)
    (case h_b_enumerate => k_is)
    (case h_b_list => k_is)
    (case h_b_str => k_is)
    (case h_b_sum => k_is)
    (case h_b_sorted => k_is)
    (case h_b_all => k_is)
    (case h_b_set => k_is)
    (case h_b_max => k_is)
    (case h_b_any => k_is)
    (case h_b_int => k_is)
    (case h_m_Fault => k_is)
    (case h_xl_Fault => k_is)
    (case h_xs_Fault => k_is)
    (case h_xg_Fault => k_is)
    (case h_xt_Fault => k_is)
    (case h_xe_Fault => k_is)
    (case h_xy_Fault => k_is)
    (case h_xh_Fault => k_is)
    (case h_xk_Fault => k_is)
    (case h_xi_Fault => k_is)
    (case h_xx_Fault => first | rfl | k_is)
    (case h_xn_Fault_code => k_is)
    (case h_xn_Fault_place => k_is)
    (case h_xj_Fault => k_is)
    (case h_xf_Fault => k_is)
    (case h_l_Fault_init => k_is)
    (case h_o_Fault_init => k_is)
    (case h_k_Fault_init => k_is)
    (case h_m_Token => k_is)
    (case h_ca_Token => k_is)
    (case h_cb_Token => k_is)
    (case h_cd_Token => k_is)
    (case h_ce_Token => k_is)
    (case h_cm_Token => k_is)
    (case h_ci_Token => k_is)
    (case h_cf_Token => k_is)
    (case h_ck_Token => k_is)
    (case h_n_Token_kind => k_is)
    (case h_n_Token_value => k_is)
    (case h_n_Token_place => k_is)
    (case h_m_Table => k_is)
    (case h_ca_Table => k_is)
    (case h_cb_Table => k_is)
    (case h_cd_Table => k_is)
    (case h_ce_Table => k_is)
    (case h_cm_Table => k_is)
    (case h_ci_Table => k_is)
    (case h_cf_Table => k_is)
    (case h_ck_Table => k_is)
    (case h_n_Table_columns => k_is)
    (case h_n_Table_rows => k_is)
    (case h_n_Table_questions => k_is)
    (case h_ma_Table_groupings => k_is)
    (case h_mb_Table_groupings => k_is)
    (case h_m_Parser => k_is)
    (case h_ca_Parser => k_is)
    (case h_cb_Parser => k_is)
    (case h_cd_Parser => k_is)
    (case h_ce_Parser => k_is)
    (case h_cm_Parser => k_is)
    (case h_ci_Parser => k_is)
    (case h_cf_Parser => k_is)
    (case h_ck_Parser => k_is)
    (case h_n_Parser_tokens => k_is)
    (case h_n_Parser_at => k_is)
    (case h_n_Parser_table => k_is)
    (case h_ma_Parser_here => k_is)
    (case h_mb_Parser_here => k_is)
    (case h_ma_Parser_fail_if => k_is)
    (case h_mb_Parser_fail_if => k_is)
    (case h_ma_Parser_comes => k_is)
    (case h_mb_Parser_comes => k_is)
    (case h_ma_Parser_take => k_is)
    (case h_mb_Parser_take => k_is)
    (case h_ma_Parser_passes => k_is)
    (case h_mb_Parser_passes => k_is)
    (case h_ma_Parser_take_number => k_is)
    (case h_mb_Parser_take_number => k_is)
    (case h_ma_Parser_take_column => k_is)
    (case h_mb_Parser_take_column => k_is)
    (case h_ma_Parser_take_columns => k_is)
    (case h_mb_Parser_take_columns => k_is)
    (case h_ma_Parser_take_row => k_is)
    (case h_mb_Parser_take_row => k_is)
    (case h_ma_Parser_take_group => k_is)
    (case h_mb_Parser_take_group => k_is)
    (case h_ma_Parser_take_question => k_is)
    (case h_mb_Parser_take_question => k_is)
    (case h_ma_Parser_take_table => k_is)
    (case h_mb_Parser_take_table => k_is)
    (case h_m_Sizes => k_is)
    (case h_ca_Sizes => k_is)
    (case h_cb_Sizes => k_is)
    (case h_cd_Sizes => k_is)
    (case h_ce_Sizes => k_is)
    (case h_cm_Sizes => k_is)
    (case h_ci_Sizes => k_is)
    (case h_cf_Sizes => k_is)
    (case h_ck_Sizes => k_is)
    (case h_n_Sizes_rows => k_is)
    (case h_n_Sizes_lines => k_is)
    (case h_ma_Sizes_smallest => k_is)
    (case h_mb_Sizes_smallest => k_is)
    (case h_ma_Sizes_parent_in => k_is)
    (case h_mb_Sizes_parent_in => k_is)
    (case h_ma_Sizes_read_from => k_is)
    (case h_mb_Sizes_read_from => k_is)
    (case h_ma_Sizes_build_cost => k_is)
    (case h_mb_Sizes_build_cost => k_is)
    (case h_ma_Sizes_cost_together => k_is)
    (case h_mb_Sizes_cost_together => k_is)
    (case h_ma_Sizes_total => k_is)
    (case h_mb_Sizes_total => k_is)
    (case h_m_Played => k_is)
    (case h_ca_Played => k_is)
    (case h_cb_Played => k_is)
    (case h_cd_Played => k_is)
    (case h_ce_Played => k_is)
    (case h_cm_Played => k_is)
    (case h_ci_Played => k_is)
    (case h_cf_Played => k_is)
    (case h_ck_Played => k_is)
    (case h_n_Played_sizes => k_is)
    (case h_n_Played_steps => k_is)
    (case h_n_Played_cost => k_is)
    (case h_n_Played_most => k_is)
    (case h_n_Played_there => k_is)
    (case h_ma_Played_play => k_is)
    (case h_mb_Played_play => k_is)
    (case h_m_Refused => k_is)
    (case h_xl_Refused => k_is)
    (case h_xs_Refused => k_is)
    (case h_xg_Refused => k_is)
    (case h_xt_Refused => k_is)
    (case h_xe_Refused => k_is)
    (case h_xy_Refused => k_is)
    (case h_xh_Refused => k_is)
    (case h_xk_Refused => k_is)
    (case h_xi_Refused => k_is)
    (case h_xx_Refused => first | rfl | k_is)
    (case h_xn_Refused_number => k_is)
    (case h_xj_Refused => k_is)
    (case h_xf_Refused => k_is)
    (case h_l_Refused_init => k_is)
    (case h_o_Refused_init => k_is)
    (case h_k_Refused_init => k_is)
    (case h_m_Desk => k_is)
    (case h_ca_Desk => k_is)
    (case h_cb_Desk => k_is)
    (case h_cd_Desk => k_is)
    (case h_ce_Desk => k_is)
    (case h_cm_Desk => k_is)
    (case h_ci_Desk => k_is)
    (case h_cf_Desk => k_is)
    (case h_ck_Desk => k_is)
    (case h_n_Desk_table => k_is)
    (case h_n_Desk_sizes => k_is)
    (case h_n_Desk_wished => k_is)
    (case h_l_Token_init => k_is)
    (case h_o_Token_init => k_is)
    (case h_k_Token_init => k_is)
    (case h_m_signs_of => k_is)
    (case h_l_signs_of => k_is)
    (case h_o_signs_of => k_is)
    (case h_k_signs_of => k_is)
    (case h_m_is_digit => k_is)
    (case h_l_is_digit => k_is)
    (case h_o_is_digit => k_is)
    (case h_k_is_digit => k_is)
    (case h_m_is_letter => k_is)
    (case h_l_is_letter => k_is)
    (case h_o_is_letter => k_is)
    (case h_k_is_letter => k_is)
    (case h_m_behind_blanks => k_is)
    (case h_l_behind_blanks => k_is)
    (case h_o_behind_blanks => k_is)
    (case h_k_behind_blanks => k_is)
    (case h_m_behind_name => k_is)
    (case h_l_behind_name => k_is)
    (case h_o_behind_name => k_is)
    (case h_k_behind_name => k_is)
    (case h_m_behind_digits => k_is)
    (case h_l_behind_digits => k_is)
    (case h_o_behind_digits => k_is)
    (case h_k_behind_digits => k_is)
    (case h_m_name_token => k_is)
    (case h_l_name_token => k_is)
    (case h_o_name_token => k_is)
    (case h_k_name_token => k_is)
    (case h_m_number_token => k_is)
    (case h_l_number_token => k_is)
    (case h_o_number_token => k_is)
    (case h_k_number_token => k_is)
    (case h_m_tokens_of => k_is)
    (case h_l_tokens_of => k_is)
    (case h_o_tokens_of => k_is)
    (case h_k_tokens_of => k_is)
    (case h_l_Table_init => k_is)
    (case h_o_Table_init => k_is)
    (case h_k_Table_init => k_is)
    (case h_l_Table_groupings => k_is)
    (case h_o_Table_groupings => k_is)
    (case h_k_Table_groupings => k_is)
    (case h_l_Parser_init => k_is)
    (case h_o_Parser_init => k_is)
    (case h_k_Parser_init => k_is)
    (case h_l_Parser_here => k_is)
    (case h_o_Parser_here => k_is)
    (case h_k_Parser_here => k_is)
    (case h_l_Parser_fail_if => k_is)
    (case h_o_Parser_fail_if => k_is)
    (case h_k_Parser_fail_if => k_is)
    (case h_l_Parser_comes => k_is)
    (case h_o_Parser_comes => k_is)
    (case h_k_Parser_comes => k_is)
    (case h_l_Parser_take => k_is)
    (case h_o_Parser_take => k_is)
    (case h_k_Parser_take => k_is)
    (case h_l_Parser_passes => k_is)
    (case h_o_Parser_passes => k_is)
    (case h_k_Parser_passes => k_is)
    (case h_l_Parser_take_number => k_is)
    (case h_o_Parser_take_number => k_is)
    (case h_k_Parser_take_number => k_is)
    (case h_l_Parser_take_column => k_is)
    (case h_o_Parser_take_column => k_is)
    (case h_k_Parser_take_column => k_is)
    (case h_l_Parser_take_columns => k_is)
    (case h_o_Parser_take_columns => k_is)
    (case h_k_Parser_take_columns => k_is)
    (case h_l_Parser_take_row => k_is)
    (case h_o_Parser_take_row => k_is)
    (case h_k_Parser_take_row => k_is)
    (case h_l_Parser_take_group => k_is)
    (case h_o_Parser_take_group => k_is)
    (case h_k_Parser_take_group => k_is)
    (case h_l_Parser_take_question => k_is)
    (case h_o_Parser_take_question => k_is)
    (case h_k_Parser_take_question => k_is)
    (case h_l_Parser_take_table => k_is)
    (case h_o_Parser_take_table => k_is)
    (case h_k_Parser_take_table => k_is)
    (case h_m_read_table => k_is)
    (case h_l_read_table => k_is)
    (case h_o_read_table => k_is)
    (case h_k_read_table => k_is)
    (case h_m_with_commas => k_is)
    (case h_l_with_commas => k_is)
    (case h_o_with_commas => k_is)
    (case h_k_with_commas => k_is)
    (case h_m_line_of => k_is)
    (case h_l_line_of => k_is)
    (case h_o_line_of => k_is)
    (case h_k_line_of => k_is)
    (case h_m_columns_in => k_is)
    (case h_l_columns_in => k_is)
    (case h_o_columns_in => k_is)
    (case h_k_columns_in => k_is)
    (case h_m_one_form => k_is)
    (case h_l_one_form => k_is)
    (case h_o_one_form => k_is)
    (case h_k_one_form => k_is)
    (case h_m_size_of => k_is)
    (case h_l_size_of => k_is)
    (case h_o_size_of => k_is)
    (case h_k_size_of => k_is)
    (case h_m_has_all => k_is)
    (case h_l_has_all => k_is)
    (case h_o_has_all => k_is)
    (case h_k_has_all => k_is)
    (case h_m_is_above => k_is)
    (case h_l_is_above => k_is)
    (case h_o_is_above => k_is)
    (case h_k_is_above => k_is)
    (case h_m_column_count => k_is)
    (case h_l_column_count => k_is)
    (case h_o_column_count => k_is)
    (case h_k_column_count => k_is)
    (case h_m_helper_number => k_is)
    (case h_l_helper_number => k_is)
    (case h_o_helper_number => k_is)
    (case h_k_helper_number => k_is)
    (case h_l_Sizes_init => k_is)
    (case h_o_Sizes_init => k_is)
    (case h_k_Sizes_init => k_is)
    (case h_l_Sizes_smallest => k_is)
    (case h_o_Sizes_smallest => k_is)
    (case h_k_Sizes_smallest => k_is)
    (case h_l_Sizes_parent_in => k_is)
    (case h_o_Sizes_parent_in => k_is)
    (case h_k_Sizes_parent_in => k_is)
    (case h_l_Sizes_read_from => k_is)
    (case h_o_Sizes_read_from => k_is)
    (case h_k_Sizes_read_from => k_is)
    (case h_l_Sizes_build_cost => k_is)
    (case h_o_Sizes_build_cost => k_is)
    (case h_k_Sizes_build_cost => k_is)
    (case h_l_Sizes_cost_together => k_is)
    (case h_o_Sizes_cost_together => k_is)
    (case h_k_Sizes_cost_together => k_is)
    (case h_l_Sizes_total => k_is)
    (case h_o_Sizes_total => k_is)
    (case h_k_Sizes_total => k_is)
    (case h_m_sets_of => k_is)
    (case h_l_sets_of => k_is)
    (case h_o_sets_of => k_is)
    (case h_k_sets_of => k_is)
    (case h_m_best_helpers => k_is)
    (case h_l_best_helpers => k_is)
    (case h_o_best_helpers => k_is)
    (case h_k_best_helpers => k_is)
    (case h_m_plan_with => k_is)
    (case h_l_plan_with => k_is)
    (case h_o_plan_with => k_is)
    (case h_k_plan_with => k_is)
    (case h_l_Played_init => k_is)
    (case h_o_Played_init => k_is)
    (case h_k_Played_init => k_is)
    (case h_l_Played_play => k_is)
    (case h_o_Played_play => k_is)
    (case h_k_Played_play => k_is)
    (case h_l_Desk_init => k_is)
    (case h_o_Desk_init => k_is)
    (case h_k_Desk_init => k_is)
    (case h_m_refuse_if => k_is)
    (case h_l_refuse_if => k_is)
    (case h_o_refuse_if => k_is)
    (case h_k_refuse_if => k_is)
    (case h_m_is_grouping => k_is)
    (case h_l_is_grouping => k_is)
    (case h_o_is_grouping => k_is)
    (case h_k_is_grouping => k_is)
    (case h_m_need_groupings => k_is)
    (case h_l_need_groupings => k_is)
    (case h_o_need_groupings => k_is)
    (case h_k_need_groupings => k_is)
    (case h_m_load => k_is)
    (case h_l_load => k_is)
    (case h_o_load => k_is)
    (case h_k_load => k_is)
    (case h_m_shown => k_is)
    (case h_l_shown => k_is)
    (case h_o_shown => k_is)
    (case h_k_shown => k_is)
    (case h_m_wish => k_is)
    (case h_l_wish => k_is)
    (case h_o_wish => k_is)
    (case h_k_wish => k_is)
    (case h_m_plain => k_is)
    (case h_l_plain => k_is)
    (case h_o_plain => k_is)
    (case h_k_plain => k_is)
    (case h_m_told_with => k_is)
    (case h_l_told_with => k_is)
    (case h_o_told_with => k_is)
    (case h_k_told_with => k_is)
    (case h_m_best => k_is)
    (case h_l_best => k_is)
    (case h_o_best => k_is)
    (case h_k_best => k_is)
    (case h_m_is_step => k_is)
    (case h_l_is_step => k_is)
    (case h_o_is_step => k_is)
    (case h_k_is_step => k_is)
    (case h_m_check => k_is)
    (case h_l_check => k_is)
    (case h_o_check => k_is)
    (case h_k_check => k_is)
    (case h_m_read_by => k_is)
    (case h_l_read_by => k_is)
    (case h_o_read_by => k_is)
    (case h_k_read_by => k_is)
    (case h_m_idle => k_is)
    (case h_l_idle => k_is)
    (case h_o_idle => k_is)
    (case h_k_idle => k_is)
    (case h_m_from_all => k_is)
    (case h_l_from_all => k_is)
    (case h_o_from_all => k_is)
    (case h_k_from_all => k_is)
    (case h_m_with_helpers => k_is)
    (case h_l_with_helpers => k_is)
    (case h_o_with_helpers => k_is)
    (case h_k_with_helpers => k_is)
    (case h_m_answered => k_is)
    (case h_l_answered => k_is)
    (case h_o_answered => k_is)
    (case h_k_answered => k_is)
    (case h_m_answers => k_is)
    (case h_l_answers => k_is)
    (case h_o_answers => k_is)
    (case h_k_answers => k_is)
    (case h_zl => k_is)
    (case h_zo => k_is)
    (case h_zk => k_is)
    (case h_zt => first | rfl | k_is | decide +kernel)
    (case h_zn => first | rfl | k_is | decide +kernel)

