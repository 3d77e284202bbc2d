import PyProof.Rows.All
import Wide.All
import OpenK.AllK
import Wide.FinOn
import HandS.ForExc
import HandS.ExcInit
import HandS.ExcCtx
import HandS.HotCalls
import HandS.ExcInitHot
import HandS.ExcField
import HandS.ExcIs
import KE.KExcIs
import HandS.ForMost
import HandS.Evl
import HandS.IsInst
import HandS.Wide
import HandS.SortInts
import HandS.Style
import HandS.More
import HandS.Conv
import KE.DataMinMax
import KE.KDictList
import KE.KEqSeq
import KE.DataFind
import HandS.Iter
import HandS.Deep
import HandS.SetFor
import HandS.SortKw
import HandS.WideBits
import HandS.Strs
import HandS.Comp
import PySem.Challenge.RW_nextpair_k09_pairs_below_any_row
set_option Elab.async false
set_option linter.all false
set_option maxRecDepth 100000
set_option maxHeartbeats 4000000
/-! DL, the part of errors: an error class whose __init__ calls its own base's, which is ValueError's; raising; what an error's way out is by data. -/
namespace DL
open PySem L2 PySem.Spec PyProof.Rows
open Evl (Ex)
section
variable {F : Hp}
/-- the heap without what stands at a -/
def del (F : Hp) (a : Addr) : Hp := fun b => if b = a then none else F b
theorem del_same {a : Addr} : del F a a = none := if_pos rfl
theorem del_ne {a b : Addr} (h : b ≠ a) : del F a b = F b := if_neg h
theorem del_some {a b : Addr} {o : HO} (h : del F a b = some o) : b ≠ a ∧ F b = some o := by
  by_cases e : b = a
  · rw [e, del_same] at h; cases h
  · rw [del_ne e] at h; exact ⟨e, h⟩
end
/-- what the top has written of an error class without __init__ of its own, over ValueError -/
structure BaseE (K : PySem.W.Frag) (D : Addr) : Prop where
  ga : PySem.W.specialIn K (.ref D) "__getattribute__" = some (some (.builtin "type.__getattribute__"))
  ty : PySem.W.typeIn K (.ref D) = some (.type "type")
  rd : PySem.W.readsIn K D (.type "type") = true
  ini : PySem.W.findCls K (.ref D) (.type "type") "__init__" = some (.val (.builtin "ValueError.__init__"))
section
variable {X : Cx} {D : Addr} {x : Str} {e : Expr} {es : List Expr} {ta : TA} {p1 p2 pos : Pos}
/-- D.__init__(self, ..), D the name of such a class -/
theorem pe_baseInit {pl : Sem Bool} (hgl : Gl X x) (hmg : X.mg x = some (.ref D)) (bE : BaseE X.K D) (hargs : PA X (e :: es) ta)
    (heval : eval (.Call (.Attribute (.Name x p1) "__init__" p2) (e :: es) [] pos) X.env = (do
      let w0 ← eval (.Name x p1) X.env
      standAt p2.atName
      let (f0, fst0) ← holding [w0] (getMethod w0 "__init__" pl)
      callWith pos f0 fst0 (backTo pos (starEach (e :: es) X.env)) (backToKw pos (keywordEach [] X.env))) := by rfl)
    (hstar : starEach (e :: es) X.env = (false, eval e X.env) :: starEach es X.env := by rfl) (hplain : (backTo pos (starEach es X.env)).any (·.1) = false := by rfl) (hdbg : (x == ("__debug__" : Str)) = false := by decide) :
    PE X (.Call (.Attribute (.Name x p1) "__init__" p2) (e :: es) [] pos) (tVeI X.K ta) := by
  constructor
  intro pins s σ H Q Iv hw
  refine PySem.W.methodCall_KW (ld_glob Iv hgl hmg ?_ hdbg) heval
  obtain ⟨mm, fr⟩ := Iv.fr
  refine PySem.W.method_of_cls fr Iv.ok.mod.kin bE.ga (PySem.W.cls_val fr Iv.ok.mod.kin bE.ty bE.rd bE.ini (by decide +kernel) ?_)
  show wpAny _ _ (callWith pos (Value.builtin "ValueError.__init__") [] (backTo pos (starEach (e :: es) X.env)) []) _ _ _
  refine PyProof.Rows.callWith_method1 (thn (hargs.run pos pins _ σ H _ (Iv.tok _) hw) ?_) hstar hplain
  rintro us s1 ⟨vs, H1, I1, rvs, a, C, ws, rfl, hlen, T, hea, hq⟩
  cases rvs with
  | @cons _ u0 _ ur r0 rr =>
    obtain rfl : u0 = Value.ref a := r0
    have hl2 : ur.length ≤ sizeLine := by
      rw [← Paired.length rr, sizeLine_eq]
      omega
    exact oinit_ok T I1 hea hl2 fun s' J => ⟨.non, H1, J, rfl, hq⟩
end
/-! ### try with several clauses, each with a name -/
/-- what the clauses wish of an error, one behind the other: class, slot of its name, suite -/
def wAll (K : PySem.W.Frag) (Wo : WX) (De : Ends) : List (Value × Nat × (Addr → Value → Option Addr → TS)) → WX
  | [] => Wo
  | cl :: rest => wAs K cl.1 cl.2.1 cl.2.2 (wAll K Wo De rest) De
inductive Clauses (X : Cx) : List ExceptHandler → List (Value × Nat × (Addr → Value → Option Addr → TS)) → Prop
  | nil : Clauses X [] []
  | cons {x nm : Str} {cv : Value} {ix : Nat} {ts : Addr → Value → Option Addr → TS} {st0 : Stmt} {sts : List Stmt} {np ps : Pos} {hds : List ExceptHandler} {cls : List (Value × Nat × (Addr → Value → Option Addr → TS))}
      (hnm : Names X x cv) (hix : X.N[ix]? = some nm) (hlo : X.env.kindOf nm = some .local)
      (hts : ∀ (a : Addr) (ob : Obj) (cw : Value) (dd : Option Addr) (pn : List (Addr × Obj)), L2N.Zn cw dd ob → (∃ fv, ob.data = .fields fv) → X.base.get? a = none → a ∉ frs X.stack → PSs (X.suite a ((a, ob) :: pn)) (st0 :: sts) (ts a cw dd))
      (rest : Clauses X hds cls) : Clauses X (.ExceptHandler (some (.Name x np)) (some nm) (st0 :: sts) ps :: hds) ((cv, ix, ts) :: cls)
section
variable {X : Cx} {body : List Stmt} {hd0 : ExceptHandler} {hds : List ExceptHandler} {cls : List (Value × Nat × (Addr → Value → Option Addr → TS))} {ps : Pos} {tb : WX → TS} {Wo : WX}
theorem ps_tryAll (hst : X.stack = X.env :: X.outer) (hfm : X.env.frame = some X.env.locals) (hND : X.N.Nodup) (tk : L2N.Takes X Wo)
    (hbody : ∀ (W : WX) (pn : List (Addr × Obj)) (xe : Value → Shared → Prop), L2N.Takes (X.tr pn xe) W → PassesOwn (model X.prog X.w) X.A X.env xe → PSs (X.tr pn xe) body (tb W))
    (hcl : Clauses X (hd0 :: hds) cls) : PS X (.Try body (hd0 :: hds) [] [] ps) (fun De σ H => tb (wAll X.K Wo De cls) De σ H) := by
  constructor
  intro pins s σ H De Iv hw
  have okx := Iv.ok
  have hframes : X.A.frames = some (X.env :: X.outer) := by rw [okx.frames, hst]
  refine wpAny_Try_except ?_
  have bodyRun := (hbody (wAll X.K Wo De cls) (X.pn ++ pins) (fun er u1 => wpAny (model X.prog X.w) X.A (noteFrame er X.env) (fun _ u2 => wpAny (model X.prog X.w) X.A (setFlight er none) (fun _ u3 =>
    wpAny (model X.prog X.w) X.A (handleBy er X.env (hd0 :: hds)) (SP X pins De) X.xe u3) X.xe u2) X.xe u1) (fun v s' caught => ?_) PassesOwn.looking).run [] s σ H De (Iv.toTry _) hw
  · refine wpAny_mono bodyRun (fun fl s1 hsp => ?_) (fun _ _ z => z)
    cases fl with
    | next =>
      obtain ⟨τ, Hc, Jc, qc⟩ := hsp
      exact wpAny_execs_nil ⟨τ, Hc, Jc.ofTry okx, qc⟩
    | brk =>
      obtain ⟨τ, Hc, Jc, qc⟩ := hsp
      exact ⟨τ, Hc, Jc.ofTry okx, qc⟩
    | cont =>
      obtain ⟨τ, Hc, Jc, qc⟩ := hsp
      exact ⟨τ, Hc, Jc.ofTry okx, qc⟩
    | ret rv =>
      obtain ⟨yv, τ, Hc, Jc, rc, qc⟩ := hsp
      exact ⟨yv, τ, Hc, Jc.ofTry okx, rc, qc⟩
  · obtain ⟨ea, Bs, sIn, pins2, τ, Hc, ecls, edd, rfl, J0, noB, upB, skyB, freeA, sameOs, bareG, wish⟩ := caught
    have Jc : Inv X pins τ Hc sIn := J0.ofTry okx
    have skyC : Sky Bs (X.env :: X.outer) ea (L2N.Zn ecls edd) X.env.locals s'.heap := by rw [← hst]; exact skyB
    show wpAny _ X.A (noteFrame (.ref ea) X.env) _ _ _
    refine L2N.Sky.land L2N.Zn.steady hframes hfm skyC fun g3 fly3 upg3 => ?_
    have K3 : Inv X pins τ Hc { s' with heap := g3 } := Jc.landed noB fly3.1 (upB.trans upg3) sameOs bareG
    obtain ⟨ob3, fv3, at3, zc3, dat3⟩ := fly3.there
    have offFr : ea ∉ frs (X.env :: X.outer) := fun hmem => by
      obtain ⟨_, ob, eo, notF⟩ := fly3.2.2.1.mem hmem
      rw [at3] at eo
      cases eo
      exact notF _ dat3
    have offL : ea ≠ X.env.locals := fun z => offFr (List.mem_filterMap.mpr ⟨X.env, List.mem_cons_self, by rw [hfm, z]⟩)
    have offS : ea ∉ X.fs := fun hmem => by
      obtain ⟨en, hen, qq⟩ := List.mem_filterMap.mp hmem
      exact offFr (List.mem_filterMap.mpr ⟨en, List.mem_cons_of_mem _ hen, qq⟩)
    have offB : X.base.get? ea = none := by
      cases eb : X.base.get? ea with
      | none => rfl
      | some ob =>
        have inI := (Jc.bs ea ob eb).1
        have inB := noB ea ob inI (by rw [hst]; exact offFr)
        rw [fly3.2.1] at inB
        cases inB
    have Su3 := K3.suite at3 dat3 freeA offL offS
    suffices all : ∀ {hs2 : List ExceptHandler} {cs2 : List (Value × Nat × (Addr → Value → Option Addr → TS))}, Clauses X hs2 cs2 → wAll X.K Wo De cs2 ecls edd τ Hc →
        wpAny (model X.prog X.w) X.A (handleBy (.ref ea) X.env hs2) (SP X pins De) X.xe { s' with heap := g3 } from all hcl wish
    intro hs2 cs2 hc2
    induction hc2 with
    | nil =>
      intro wout
      refine wpAny_handleBy_nil ?_
      obtain ⟨f1, f2, f3, ob, fv, Tb, oTb, tfs, e1, e2, e3, e4, e5⟩ := id fly3
      unfold PySem.passOn
      refine wpAny_bind (wpAny_field e1 e3 e4 ?_)
      rw [if_neg (by simp : ¬ ((Value.ref Tb == Value.none) = true))]
      have finish : wpAny (model X.prog X.w) X.A (setFlight (.ref ea) X.env.frame) (fun _ u4 => wpAny (model X.prog X.w) X.A (throw (.ref ea) : Sem Flow) (SP X pins De) X.xe u4) X.xe { s' with heap := g3 } := by
        rw [hfm]
        exact HandSPX.setFlight_upZ fly3 fun g4 low4 upg4 => wpAny_throw (tk _ _ ⟨ea, Bs, sIn, pins, τ, Hc, ecls, edd, rfl, Jc, noB, (upB.trans upg3).trans upg4, .inr (.inr (by rw [hst]; exact low4)), freeA, sameOs, bareG, wout⟩)
      first
        | exact wpAny_bind (wpAny_pure (wpAny_bind finish))
        | exact wpAny_bind finish
    | @cons x nm cv ix ts st0 sts np psn hds2 cls2 hnm hix hlo hts rest ih =>
      intro wcl
      obtain ⟨bb, hexm, whit, wmiss⟩ := wcl
      refine wpAny_handleBy_cons (codeAny_handlers_test ?_) (by intro z; cases z)
      have lookT : PySem.W.Looks (model X.prog X.w) g3 (typeOf (.ref ea)) ecls := fun A2 Q2 E2 u2 k2 q2 => wpAny_typeOf_ref (k2 _ _ at3) (by rw [zc3.1]; exact q2)
      have lookM := PySem.W.exm_one (M := model X.prog X.w) (K3.kIn) lookT hexm
      have testing : ∀ {Q2 E2 : Value → Shared → Prop}, Q2 cv { s' with heap := g3 } → wpAny (model X.prog X.w) (X.A.mark (some (.ref ea))) (eval (.Name x np) X.env) Q2 E2 { s' with heap := g3 } := fun {Q2 E2} q2 => by
        obtain ⟨hgl, hdb, hin | ⟨hin, hbo, hnn⟩⟩ := hnm
        · exact ld_glob (X := X.suite ea ((ea, ob3) :: (X.pn ++ pins))) Su3 hgl hin q2 hdb
        · exact ld_blt (X := X.suite ea ((ea, ob3) :: (X.pn ++ pins))) Su3 hgl hin hbo q2 hnn hdb
      refine testing (lookM.here ?_)
      cases bb with
      | false => exact ih (wmiss rfl)
      | true =>
        refine codeAny_handlers_suite_as ?_
        refine HandSPX.lands_againZ fly3 fun g4 fly4 upg4 => ?_
        have K4 : Inv X pins τ Hc { s' with heap := g4 } := Jc.landed noB fly4.1 ((upB.trans upg3).trans upg4) sameOs bareG
        obtain ⟨ob4, fv4, at4, zc4, dat4⟩ := fly4.there
        have Su4 := K4.suite at4 dat4 freeA offL offS
        refine store_ok (X := X.suite ea ((ea, ob4) :: (X.pn ++ pins))) (v := .ref ea) Su4 hND hix (.inl hlo) rfl (fun u5 Su5 => ?_) (.inr hlo)
        refine wpAny_mono ((hts ea ob4 ecls edd (X.pn ++ pins) zc4 ⟨_, dat4⟩ offB (by rw [hst]; exact offFr)).run [] u5 _ Hc _ Su5 (whit rfl ea freeA)) (fun fl u6 hsp => ?_) (fun _ _ z => z.elim)
        have leaveIt : ∀ {σ6 : L2.St} {H6 : Hp} {R6 : Shared → Prop}, Inv (X.suite ea ((ea, ob4) :: (X.pn ++ pins))) [] σ6 H6 u6 → (∀ u7, Inv X pins (σ6.set ix none) H6 u7 → R6 u7) →
            wpAny (model X.prog X.w) X.A (do bindName X.env nm .none; unbindBehindTheSuite X.env nm psn) (fun _ u7 => R6 u7) X.xe u6 := fun {σ6 H6 R6} Su6 h6 => gone_ok (Su6.unsuite okx) hND hix hlo h6
        cases fl with
        | next =>
          obtain ⟨_, _, Su6, q6⟩ := hsp
          exact leaveIt Su6 fun u7 J7 => ⟨_, _, J7, q6⟩
        | brk =>
          obtain ⟨_, _, Su6, q6⟩ := hsp
          exact leaveIt Su6 fun u7 J7 => ⟨_, _, J7, q6⟩
        | cont =>
          obtain ⟨_, _, Su6, q6⟩ := hsp
          exact leaveIt Su6 fun u7 J7 => ⟨_, _, J7, q6⟩
        | ret uv =>
          obtain ⟨_, _, _, Su6, r6, q6⟩ := hsp
          exact leaveIt Su6 fun u7 J7 => ⟨_, _, _, J7, r6, q6⟩
end
/-! ### a caught error handed to a def: the def runs while the error is handled, its promise may speak of the error's object -/
structure FnE (P : Program) (w : World) (K : PySem.W.Frag) (mg : Str → Option Value) (base : Heap) (CX : CXT) (k : Nat) (f : Addr) (fd : FuncData) (prs : List Str) (sp : Addr × Obj → Sp) : Prop where
  len : ∀ p vs H Q E, sp p vs H Q E → vs.length = prs.length
  run : ∀ (A : Around) (outer : List Env) (s : Shared) (H : Hp) (args : Args) (us : List Value) (vs : List V) (Q : VK) (E : XK) (p : Addr × Obj), L2H.RoomH k A → L2H.Hot1 A p → L2H.PinOk outer H s p → Env0 P w K mg base A outer s H → BindsTo s fd args (prs.zip us) → Vals vs us → sp p vs H Q E →
    codeAny (model P w) A (.call (.ref f) args) (CR CX outer P w H s Q E) s
theorem Fun.okE {CX : CXT} {P : Program} {w : World} {K : PySem.W.Frag} {mg : Str → Option Value} {base : Heap} {x qual : Str} {st : Stmt} {f : Addr} {fd : FuncData} {N prs : List Str} {k : Nat} {sp : Addr × Obj → Sp} (Fu : L2.Fun K x qual st f fd) (Sc : FnScope N prs (defScope st))
    (len : ∀ p vs H Q E, sp p vs H Q E → vs.length = prs.length)
    (hbody : ∀ (cdv : Value) (A : Around) (outer : List Env) (s : Shared) (H : Hp) (vs : List V) (Q : VK) (E : XK) (p : Addr × Obj), L2H.Hot1 A p → L2H.RoomH k (A.deeper (envOfC qual (defScope st) s.heap.objs.size f cdv)) → sp p vs H Q E →
      ∃ t, PSs (L2H.cxH CX P w K mg base N qual (defScope st) f cdv A outer s H E p) (defBody st) t ∧ t { nx := fun _ H' => Q .non H', rt := Q } (L2.start N vs) H) :
    FnE P w K mg base CX (k + 1) f fd prs sp := by
  obtain ⟨oc, od, kV, doc, pm, an, cdv, ct, osl, rfl, lk, hcd⟩ := Fu.ex
  refine ⟨len, fun A outer s H args us vs Q E p hroom hot hpin ev hbind rvs hsp => ?_⟩
  have hlen := len _ _ _ _ _ hsp
  have KX : K.In s.heap := ev.mod.kin.keeps fun b o e => (ev.bs b o e).1
  have noLim : s.heap.NoLimit := ev.mod.nolimit.keeps fun b o e => (ev.bs b o e).1
  have kinds : ∀ y ∈ prs.zip us, (defScope st).names.lookup y.1 = some .local ∨ ((defScope st).names.lookup y.1 = some .cell ∧ ((cellsFrom (s.heap.objs.size + 1) (defScope st).names []).lookup y.1).isSome = true) := by
    rintro ⟨n1, v1⟩ hy
    rcases Sc.par n1 (List.of_mem_zip hy).1 with z | z
    · exact .inl z
    · exact .inr ⟨z, PySem.W.cellsFrom_some _ _ _ (.inl z)⟩
  refine codeAny_call_function hroom.depth (KX _ _ lk) rfl Sc.co Sc.gen rfl (PySem.W.codeRec_of KX hcd) (hbind _ _ _ _ ?_)
  refine wpAny_newFunctionEnv_cells Sc.kind kinds fun env henv s1 xc => ?_
  subst henv
  refine ⟨noLim.keeps xc.toInCall.keep, codeAny_func ?_⟩
  obtain ⟨t, ht, hq⟩ := hbody cdv A outer s H vs Q E p hot (hroom.deeper _) hsp
  have Iv : Inv (L2H.cxH CX P w K mg base N qual (defScope st) f cdv A outer s H E p) [] (L2.start N vs) H s1 := L2H.inv_startH Sc hpin ev hlen rvs xc
  refine wpAny_mono (ht.run [] s1 (L2.start N vs) H _ Iv hq) (fun fl s' hs => ?_) fun er s' hs => hs
  cases fl with
  | ret u =>
    obtain ⟨v, τ, Hz, J, rv, q⟩ := hs
    exact ⟨v, Hz, J.os, J.bare, J.base, J.hok, rv, q⟩
  | next =>
    obtain ⟨τ, Hz, J, q⟩ := hs
    exact ⟨V.non, Hz, J.os, J.bare, J.base, J.hok, rfl, q⟩
  | brk => exact hs.choose_spec.choose_spec.2.elim
  | cont => exact hs.choose_spec.choose_spec.2.elim
/-- f(error): whatever object the error is -/
def tCallErrZ (i : Nat) (a : Addr) (cw : Value) (od : Option Addr) (sp : Addr × Obj → Sp) : TE := fun σ H Q => σ[i]? = some (some (.ref a)) ∧ ∀ ob : Obj, L2N.Zn cw od ob → (∃ fv, ob.data = .fields fv) → sp (a, ob) [.ref a] H Q E0
section
variable {X : Cx} {k i : Nat} {f a : Addr} {ob : Obj} {fd : FuncData} {prs : List Str} {sp : Addr × Obj → Sp} {fx nm : Str} {p q pos : Pos} {cw : Value} {od : Option Addr} {pn : List (Addr × Obj)}
theorem pe_callErrZ (hz : L2N.Zn cw od ob) (hfv : ∃ fv, ob.data = .fields fv) (Fo : FnE X.prog X.w X.K X.mg X.base CX0 k f fd prs sp) (hroom : Room k X.A) (hgl : Gl X fx) (hmg : X.mg fx = some (.ref f)) (hkeep : PySem.W.keepIn X.K (.ref f) = true) (hbinds : Binds X.K fd prs [])
    (hslot : X.N[i]? = some nm) (hvis : Vis X.env.scope nm) (hd1 : (fx == ("__debug__" : Str)) = false := by decide) (hd2 : (nm == ("__debug__" : Str)) = false := by decide) (hd3 : (nm == ("__classdict__" : Str)) = false := by decide) :
    PE (X.suite a ((a, ob) :: pn)) (.Call (.Name fx p) [.Name nm q] [] pos) (tCallErrZ i a cw od sp) := by
  constructor
  intro pins s σ H Q Iv hw
  obtain ⟨hs, hsp⟩ := hw
  have argsOk : PA (X.suite a ((a, ob) :: pn)) [.Name nm q] (tCons (tVar i) tNil) := pa_cons (pe_var (i := i) hslot hvis hd2 hd3) pa_nil
  refine wpAny_Call_Name_kw (ld_glob Iv hgl hmg ?_ hd1)
  refine PySem.W.callWith_K (h₀ := X.base) Iv.ok.mod.kin hkeep (thn (argsOk.run pos pins s σ H (fun vs H1 => vs = [.ref a] ∧ H1 = H) Iv ⟨_, hs, rfl, rfl⟩) ?_) rfl rfl
  rintro us s1 ⟨vs, H1, I1, rvs, rfl, rfl⟩
  refine ⟨I1.kIn, ?_⟩
  have hp := I1.pin (a, ob) (List.mem_append_left _ List.mem_cons_self)
  have hpin : L2H.PinOk X.stack H1 s1 (a, ob) := ⟨hp.1, hp.2.1, fun hm => (List.mem_cons.mp (I1.stkSub a hm)).elim hp.2.2.1 hp.2.2.2.1, hp.2.2.2.2⟩
  obtain ⟨fv, hv⟩ := hfv
  have hot : L2H.Hot1 (X.suite a ((a, ob) :: pn)).A (a, ob) := ⟨rfl, fv, hv, hz.2.2 fv hv⟩
  have hsp1 := hsp ob hz ⟨fv, hv⟩
  have hl : us.length = prs.length := by
    rw [← Paired.length rvs]
    exact Fo.len _ _ _ _ _ hsp1
  have bnd : BindsTo s1 fd ⟨us, []⟩ (prs.zip us) := by
    have z := hbinds s1 us I1.kIn (by rw [List.append_nil]; exact hl)
    rwa [List.append_nil] at z
  refine wpAny_call (codeAny_mono (Fo.run _ X.stack s1 H1 ⟨us, []⟩ us [.ref a] Q E0 (a, ob) (L2H.roomH_mark hroom _) hot hpin I1.env0 bnd rvs hsp1) fun r s2 hr => ?_)
  cases r with
  | error er => exact hr.elim
  | ok fl =>
    cases fl with
    | next => exact hr.elim
    | brk => exact hr.elim
    | cont => exact hr.elim
    | ret u => exact I1.after hr
end
/-! ### an error with its dict, as a def sees it that got it, or an except suite -/
/-- at a: an error of the class at C whose dict at dd tells fs -/
structure ErrAt (K : PySem.W.Frag) (H : Hp) (a C : Addr) (ob : Obj) (fs : List (Str × V)) : Prop where
  cl : Zc (.ref C) ob.dict ob
  fv : ∃ vs, ob.data = .fields vs
  is : ExcC K C
  dc : ∃ dd, ob.dict = some dd ∧ H dd = some (.xd fs)
theorem ErrAt.mono {K : PySem.W.Frag} {F F2 : Hp} {a C : Addr} {ob : Obj} {fs : List (Str × V)} (h : ErrAt K F a C ob fs) (e : Ex F F2) : ErrAt K F2 a C ob fs := ⟨h.cl, h.fv, h.is, by
  obtain ⟨dd, h1, h2⟩ := h.dc
  exact ⟨dd, h1, e _ _ h2⟩⟩
section
variable {X : Cx} {H : Hp} {σ : L2.St} {s : Shared} {a C : Addr} {ob : Obj} {fs : List (Str × V)}
theorem ErrAt.inst {pins : List (Addr × Obj)} (h : ErrAt X.K H a C ob fs) (Iv : Inv X pins σ H s) (hat : s.heap.get? a = some ob) : ∃ (od : Obj) (mA : Str → Option Value), PySem.W.InstAt s.heap a ob C (some od) ∧ (∀ nm, PySem.W.lookIn nm od = some (mA nm)) ∧ ∀ nm, RelO (fs.lookup nm) (mA nm) := by
  obtain ⟨dd, hd, hx⟩ := h.dc
  have hx : ObjOk X.prog X.w H s.heap dd (.xd fs) := Iv.hok dd _ hx
  obtain ⟨mA, hns, hr⟩ := hx
  obtain ⟨od, ho, hl⟩ := lookIn_ns hns
  obtain ⟨vs, hv⟩ := h.fv
  exact ⟨od, mA, ⟨hat, h.cl.1, by unfold PySem.W.notCls; rw [hv] <;> rfl, by rw [hd]; exact ho⟩, hl, hr⟩
theorem kitx_err {K : PySem.W.Frag} {od : Obj} (hC : ExcC K C) : PySem.W.KitX K (.ref a) (.ref C) (fun h => PySem.W.InstAt h a ob C (some od)) :=
  PySem.W.kitx_exc (by obtain ⟨cd, hc, _⟩ := PySem.W.any_some hC.hd; rw [hc]; rfl) hC.hg hC.hk hC.hs hC.ha hC.hn hC.ht hC.hm
/-- isinstance(e, T), e such an error -/
def rIsErr (K : PySem.W.Frag) (W : Addr → Obj → Hp → Prop) : List V → Hp → VK → Prop := fun xs H Q => ∃ (a C : Addr) (ob : Obj) (fs : List (Str × V)) (c : V) (cv : Value) (b : Bool), xs = [.ref a, c] ∧ W a ob H ∧ ErrAt K H a C ob fs ∧ ClsV c cv ∧ PySem.W.kitOne K (.ref C) cv = some b ∧ Q (.bl b) H
/-- e.n -/
def tErrF (K : PySem.W.Frag) (W : Addr → Obj → Hp → Prop) (nm : Str) (te : TE) : TE := fun σ H Q => te σ H fun x H1 => ∃ (a C : Addr) (ob : Obj) (fs : List (Str × V)) (v : V), x = .ref a ∧ W a ob H1 ∧ ErrAt K H1 a C ob fs ∧ PySem.W.findIn K (.ref C) nm = some none ∧ fs.lookup nm = some v ∧ Q v H1
/-- how it is known that the object stands there -/
def Stands (X : Cx) (W : Addr → Obj → Hp → Prop) : Prop := ∀ (pins : List (Addr × Obj)) (σ : L2.St) (H : Hp) (s : Shared) (a : Addr) (ob : Obj), Inv X pins σ H s → W a ob H → s.heap.get? a = some ob
/-- held by the suite -/
def bySuite (a0 : Addr) (ob0 : Obj) : Addr → Obj → Hp → Prop := fun a ob _ => a = a0 ∧ ob = ob0
theorem stands_suite {a0 : Addr} {ob0 : Obj} (h : (a0, ob0) ∈ X.pn) : Stands X (bySuite a0 ob0) := fun pins σ H s a ob Iv z => by
  obtain ⟨rfl, rfl⟩ := z
  exact (Iv.pin (a, ob) (List.mem_append_left _ h)).1
theorem call_isErr {W : Addr → Obj → Hp → Prop} (hW : Stands X W) : CallR X (.builtin "isinstance") (rIsErr X.K W) := by
  intro pins s σ H xs us Q Iv r h
  obtain ⟨a, C, ob, fs, c, cv, b, rfl, hw, he, hc, hk, hq⟩ := h
  obtain ⟨u1, u2, rfl, r1, r2⟩ := vals2 r
  have e2 := hc.eq r2
  subst e2
  obtain rfl : u1 = Value.ref a := r1
  obtain ⟨od, mA, J, _, _⟩ := he.inst Iv (hW pins σ H s a ob Iv hw)
  exact PySem.W.kia_one (kitx_err he.is) Iv.kIn J hk (fun z => nomatch z) fun tk => ⟨.bl b, H, Iv.tok tk, rfl, hq⟩
theorem pe_errF {W : Addr → Obj → Hp → Prop} {e : Expr} {te : TE} {pos : Pos} {nm : Str} (hW : Stands X W) (he : PE X e te) (hb : attributeBase e nm X.env (eval e X.env) = eval e X.env := by rfl) : PE X (.Attribute e nm pos) (tErrF X.K W nm te) := by
  constructor
  intro pins s σ H Q Iv hw
  refine attr_of hb (thn (he.run pins s σ H _ Iv hw) ?_)
  rintro u s1 ⟨x, H1, I1, rx, a, C, ob, fs, v, rfl, hst, hE, hno, hl, hq⟩
  obtain rfl : u = Value.ref a := rx
  obtain ⟨od, mA, J, hlk, hr⟩ := hE.inst I1 (hW pins σ H1 s1 a ob I1 hst)
  obtain ⟨u, hu, ru⟩ := RelO.some_of (v := v) (o := mA nm) (by rw [← hl]; exact hr nm)
  exact HandSPX.exc_get I1.kIn J hE.is.hg hE.is.hk hE.is.hs (PySem.W.findObj_own hE.is.hd hno rfl (by rw [hlk, hu])) (handed_of ru) ⟨v, H1, I1.tok _, ru, hq⟩
end
/-! ### C(e, ..), an error class with an __init__ of its own, to be raised -/
section
variable {X : Cx} {CX : CXT} {x : Str} {C fI : Addr} {k : Nat} {fd : FuncData} {prs : List Str} {sp : Sp} {e : Expr} {es : List Expr} {ta : TA} {p pos : Pos}
theorem pmk_ini (T : OexC X.K C) (hini : PySem.W.findIn X.K (.ref C) "__init__" = some (some (.ref fI))) (hfun : PySem.W.typeIn X.K (.ref fI) = some (.type "function")) (Fo : FnOk X.prog X.w X.K X.mg X.base CX0 k fI fd prs sp) (hroom : Room (k + 1) X.A) (hbinds : Binds X.K fd prs [])
    (hgl : Gl X x) (hmg : X.mg x = some (.ref C)) (hargs : PA X (e :: es) ta) (hdbg : (x == ("__debug__" : Str)) = false := by decide) (hstar : starEach (e :: es) X.env = (false, eval e X.env) :: starEach es X.env := by rfl) (hplain : (backTo pos (starEach es X.env)).any (·.1) = false := by rfl) :
    L2N.PMk X (.Call (.Name x p) (e :: es) [] pos) (tMkO C sp [] ta) := by
  intro pins s σ H Q Iv hw
  obtain ⟨nm, qn, NN, bs, bm, sn, sub, ab, col, dd, k0, k1, k2, k3, k5, hC, hbm⟩ := T.cls
  refine wpAny_Call_Name_kw (ld_glob Iv hgl hmg ?_ hdbg)
  refine PySem.W.callWith_K (h₀ := X.base) Iv.ok.mod.kin T.kC (thn (hargs.run pos pins s σ H _ Iv hw) ?_) hstar hplain
  rintro us s1 ⟨vs, H1, I1, rvs, hlen, hall⟩
  refine ⟨I1.kIn, ?_⟩
  show wpAny _ _ (call (.ref C) us) _ _ _
  obtain ⟨hp, gn, dr, tk, os⟩ := s1
  have above : hp.objs.size ≤ hp.objs.size + 1 := Nat.le_succ _
  have nw : H1 (hp.objs.size + 1) = none := I1.hok.fresh above
  have wish := hall (hp.objs.size + 1) nw
  have stays : ∀ b o, hp.get? b = some o → ((hp.push (PySem.W.kdv_tup us)).push (PySem.HandSPX.excO C hp.objs.size)).get? b = some o := fun b o g => Heap.get?_push_of_some _ (Heap.get?_push_of_some _ g)
  have lies : ((hp.push (PySem.W.kdv_tup us)).push (PySem.HandSPX.excO C hp.objs.size)).get? (hp.objs.size + 1) = some (PySem.HandSPX.excO C hp.objs.size) := by heap_get
  have I2 : Inv X pins σ (upd H1 (hp.objs.size + 1) (exo (hp.objs.size + 1) C none)) ⟨(hp.push (PySem.W.kdv_tup us)).push (PySem.HandSPX.excO C hp.objs.size), gn, dr, tk, os⟩ :=
    I1.laid (t' := tk) (a := hp.objs.size + 1) (o := exo (hp.objs.size + 1) C none) (h' := (hp.push (PySem.W.kdv_tup us)).push (PySem.HandSPX.excO C hp.objs.size)) stays above (exo_ok lies)
  have rv2 : Vals (V.ref (hp.objs.size + 1) :: (vs ++ [])) (Value.ref (hp.objs.size + 1) :: (us ++ [])) := .cons rfl (rvs.append .nil)
  have hl : (Value.ref (hp.objs.size + 1) :: us ++ []).length = prs.length := by
    have z := rv2.length
    rw [Fo.len _ _ _ _ wish] at z
    exact z.symm
  have bnd : BindsTo ⟨(hp.push (PySem.W.kdv_tup us)).push (PySem.HandSPX.excO C hp.objs.size), gn, dr, tk, os⟩ fd ⟨Value.ref (hp.objs.size + 1) :: us, []⟩ (prs.zip (Value.ref (hp.objs.size + 1) :: (us ++ []))) := by
    have z := hbinds ⟨(hp.push (PySem.W.kdv_tup us)).push (PySem.HandSPX.excO C hp.objs.size), gn, dr, tk, os⟩ (Value.ref (hp.objs.size + 1) :: us) I2.kIn hl
    rwa [List.cons_append] at z
  have small : us.length ≤ sizeLine := by
    rw [← Paired.length rvs, sizeLine_eq]
    omega
  refine wpAny_call (PySem.HandSPX.call_own F.excBase_ValueError (fun Y => PySem.HandSPX.refsVE_contains Y bm hbm) (I1.kIn _ _ hC) (PySem.W.looks_findIn I1.kIn hini) (fun self => PySem.W.bind_fn I1.kIn self hfun) small
    (codeAny_mono (Fo.run _ X.stack _ _ ⟨Value.ref (hp.objs.size + 1) :: us, []⟩ (Value.ref (hp.objs.size + 1) :: (us ++ [])) _ _ (fun _ _ _ => False) (hroom.make C us []) (I2.env0.make C us []) bnd rv2 wish) fun r s2 hr => ?_))
  cases r with
  | error er => exact hr.elim
  | ok fl =>
    cases fl with
    | next => exact hr.elim
    | brk => exact hr.elim
    | cont => exact hr.elim
    | ret u =>
      obtain ⟨v, H2, os2, bare2, un2, hok2, rv, ev, d, fs, ea, ed, hd1, q2⟩ := hr
      subst ev
      obtain ⟨h2, g2, d2, t2, osz⟩ := s2
      obtain ⟨t0, G, J, kG, ge, hoe, na⟩ := mk_end0 (d2 := d2) (t2 := t2) I1 above stays un2 hok2 os2 bare2 ea ed hd1
      exact ⟨rv, _, _, _, ⟨G, g2, d2, t2, osz⟩, _, .ref C, some d, rfl, J, kG, ge, hoe, ⟨rfl, rfl, fun fv hf => by cases hf; rfl⟩, rfl, rfl, na, rfl, bare2, raises_own T.exC T.tyC, q2⟩
end
/-- a def that may raise, its errors told with no context -/
theorem Fun.okN {P : Program} {w : World} {K : PySem.W.Frag} {mg : Str → Option Value} {base : Heap} {x qual : Str} {st : Stmt} {f : Addr} {fd : FuncData} {N prs : List Str} {k : Nat} {sp : Sp} (Fu : L2.Fun K x qual st f fd) (Sc : FnScope N prs (defScope st)) (len : ∀ vs H Q E, sp vs H Q E → vs.length = prs.length)
    (hbody : ∀ (cdv : Value) (A : Around) (outer : List Env) (s : Shared) (H : Hp) (vs : List V) (Q : VK) (E : XK), Room k (A.deeper (envOfC qual (defScope st) s.heap.objs.size f cdv)) → sp vs H Q E →
      ∃ t, PSs (cxOf (L2N.CX P w) P w K mg base N qual (defScope st) f cdv A outer s H E) (defBody st) t ∧ t { nx := fun _ H' => Q .non H', rt := Q } (L2.start N vs) H) : FnOk P w K mg base (L2N.CX P w) (k + 1) f fd prs sp := by
  obtain ⟨oc, od, kV, doc, pm, an, cdv, ct, osl, rfl, lk, hcd⟩ := Fu.ex
  exact fn_of lk hcd Sc len fun A outer s H vs Q E hr hsp => hbody cdv A outer s H vs Q E hr hsp
/-- such a def called where it raises nothing -/
theorem passN {X : Cx} : Passes (L2N.CX X.prog X.w) X E0 := by
  intro pins σ H s er s2 Iv z
  obtain ⟨_, _, _, _, _, _, _, _, _, _, _, _, ff⟩ := z
  exact ff.elim
end DL
set_option Elab.async false
set_option linter.all false
set_option maxRecDepth 100000
set_option maxHeartbeats 2000000
/-! DL: a layer of data over the readings: frozen data (D), mutable cells (MC), one word of the whole state (Sta), and what an expression is worth (EvD) without heaps or addresses. -/
namespace DL
open PySem L2
open Evl (Ex)

/-! ### pointwise -/
def P2 {α β : Type} (R : α → β → Prop) (xs : List α) (ys : List β) : Prop := xs.length = ys.length ∧ ∀ (i : Nat) (x : α) (y : β), xs[i]? = some x → ys[i]? = some y → R x y
section
variable {α β γ : Type} {R S : α → β → Prop} {xs : List α} {ys : List β}
theorem P2.imp (h : P2 R xs ys) (f : ∀ x y, R x y → S x y) : P2 S xs ys := ⟨h.1, fun i x y a b => f x y (h.2 i x y a b)⟩
theorem P2.nil : P2 R [] [] := ⟨rfl, fun i x y a _ => by simp at a⟩
theorem P2.cons {x : α} {y : β} (r : R x y) (h : P2 R xs ys) : P2 R (x :: xs) (y :: ys) := ⟨by simp [h.1], fun i a b e1 e2 => by
  cases i with
  | zero =>
    have e1 : x = a := by simpa using e1
    have e2 : y = b := by simpa using e2
    subst e1; subst e2; exact r
  | succ i => exact h.2 i a b (by simpa using e1) (by simpa using e2)⟩
theorem P2.uncons {x : α} {y : β} (h : P2 R (x :: xs) (y :: ys)) : R x y ∧ P2 R xs ys :=
  ⟨h.2 0 x y rfl rfl, by have := h.1; simpa using this, fun i a b e1 e2 => h.2 (i + 1) a b (by simpa using e1) (by simpa using e2)⟩
theorem P2.inv_nil (h : P2 R [] ys) : ys = [] := by
  have := h.1
  cases ys with
  | nil => rfl
  | cons y ys => simp at this
theorem P2.inv_cons {x : α} (h : P2 R (x :: xs) ys) : ∃ y zs, ys = y :: zs ∧ R x y ∧ P2 R xs zs := by
  cases ys with
  | nil => have := h.1; simp at this
  | cons y zs => exact ⟨y, zs, rfl, h.uncons.1, h.uncons.2⟩
theorem P2.get (h : P2 R xs ys) {i : Nat} {x : α} (e : xs[i]? = some x) : ∃ y, ys[i]? = some y ∧ R x y := by
  have hi : i < xs.length := (List.getElem?_eq_some_iff.mp e).1
  have hj : i < ys.length := h.1 ▸ hi
  exact ⟨ys[i], List.getElem?_eq_getElem hj, h.2 i _ _ e (List.getElem?_eq_getElem hj)⟩
theorem P2.append {xs' : List α} {ys' : List β} (h : P2 R xs ys) (h' : P2 R xs' ys') : P2 R (xs ++ xs') (ys ++ ys') := by
  refine ⟨by rw [List.length_append, List.length_append, h.1, h'.1], fun i x y a b => ?_⟩
  by_cases hi : i < xs.length
  · rw [List.getElem?_append_left hi] at a
    rw [List.getElem?_append_left (h.1 ▸ hi)] at b
    exact h.2 i x y a b
  · have hi' : xs.length ≤ i := Nat.le_of_not_lt hi
    rw [List.getElem?_append_right hi'] at a
    rw [List.getElem?_append_right (h.1 ▸ hi')] at b
    rw [h.1] at a
    exact h'.2 _ x y a b
theorem P2.single {x : α} {y : β} (r : R x y) : P2 R [x] [y] := P2.cons r P2.nil
theorem P2.set (h : P2 R xs ys) {j : Nat} {x : α} {y : β} (r : R x y) : P2 R (xs.set j x) (ys.set j y) := by
  refine ⟨by rw [List.length_set, List.length_set, h.1], fun i a b e1 e2 => ?_⟩
  by_cases hi : j = i
  · subst hi
    have hj : j < xs.length := by
      have := (List.getElem?_eq_some_iff.mp e1).1
      rwa [List.length_set] at this
    rw [List.getElem?_set_self hj] at e1
    rw [List.getElem?_set_self (h.1 ▸ hj)] at e2
    cases e1; cases e2; exact r
  · rw [List.getElem?_set_ne hi] at e1 e2
    exact h.2 i a b e1 e2
theorem P2.take (h : P2 R xs ys) (n : Nat) : P2 R (xs.take n) (ys.take n) := by
  refine ⟨by rw [List.length_take, List.length_take, h.1], fun i x y a b => ?_⟩
  rw [List.getElem?_take] at a b
  split at a
  · rename_i hi
    rw [if_pos hi] at b
    exact h.2 i x y a b
  · cases a
theorem P2.drop (h : P2 R xs ys) (n : Nat) : P2 R (xs.drop n) (ys.drop n) := by
  refine ⟨by rw [List.length_drop, List.length_drop, h.1], fun i x y a b => ?_⟩
  rw [List.getElem?_drop] at a b
  exact h.2 _ x y a b
theorem P2.reverse (h : P2 R xs ys) : P2 R xs.reverse ys.reverse := by
  refine ⟨by rw [List.length_reverse, List.length_reverse, h.1], fun i x y a b => ?_⟩
  have hi : i < xs.length := by
    have := (List.getElem?_eq_some_iff.mp a).1
    rwa [List.length_reverse] at this
  rw [List.getElem?_reverse hi] at a
  rw [List.getElem?_reverse (h.1 ▸ hi)] at b
  rw [h.1] at a
  exact h.2 _ x y a b
theorem P2.flip (h : P2 R xs ys) : P2 (fun y x => R x y) ys xs := ⟨h.1.symm, fun i y x a b => h.2 i x y b a⟩
end

/-! ### data, frozen -/
inductive D where
  | non | bl (b : Bool) | int (i : Int) | str (s : Str)
  | lst (l : List D) | tup (l : List D) | dct (kvs : List (Key × D)) | ins (C : Addr) (fs : List (Str × D)) | err (a : Addr) (ob : Obj) (C : Addr) (fs : List (Str × D)) | scr (ns : List Int)
/-- v stands for d in the frozen heap F -/
inductive R (K : PySem.W.Frag) (F : Hp) : D → V → Prop where
  | non : R K F .non .non
  | bl (b : Bool) : R K F (.bl b) (.bl b)
  | int (i : Int) : R K F (.int i) (.int i)
  | str (s : Str) : R K F (.str s) (.str s)
  | lst {a : Addr} {xs : List V} {ds : List D} (h : F a = some (.lst xs)) (hl : ds.length = xs.length) (hr : ∀ (i : Nat) (d : D) (v : V), ds[i]? = some d → xs[i]? = some v → R K F d v) : R K F (.lst ds) (.ref a)
  | tup {a : Addr} {xs : List V} {ds : List D} (h : F a = some (.tup xs)) (hl : ds.length = xs.length) (hr : ∀ (i : Nat) (d : D) (v : V), ds[i]? = some d → xs[i]? = some v → R K F d v) : R K F (.tup ds) (.ref a)
  | dct {a : Addr} {ws : List (Key × V)} {kvs : List (Key × D)} (h : F a = some (.dK ws)) (hl : kvs.map (·.1) = ws.map (·.1)) (hr : ∀ (i : Nat) (p : Key × D) (q : Key × V), kvs[i]? = some p → ws[i]? = some q → R K F p.2 q.2) : R K F (.dct kvs) (.ref a)
  | ins {a C dx : Addr} {ws : List (Str × V)} {fs : List (Str × D)} (h : F a = some (.ins C dx ws)) (hl : fs.map (·.1) = ws.map (·.1)) (hr : ∀ (i : Nat) (p : Str × D) (q : Str × V), fs[i]? = some p → ws[i]? = some q → R K F p.2 q.2) : R K F (.ins C fs) (.ref a)
  | err {a C : Addr} {ob : Obj} {ws : List (Str × V)} {fs : List (Str × D)} (he : ErrAt K F a C ob ws) (hl : fs.map (·.1) = ws.map (·.1)) (hr : ∀ (i : Nat) (p : Str × D) (q : Str × V), fs[i]? = some p → ws[i]? = some q → R K F p.2 q.2) : R K F (.err a ob C fs) (.ref a)
  | scr {a : Addr} {ns : List Int} (h : SqL K F a (ns.map V.int)) : R K F (.scr ns) (.ref a)
section
variable {K : PySem.W.Frag} {F F' H : Hp} {d : D} {v : V}
theorem R.mono (h : R K F d v) (e : Ex F F') : R K F' d v := by
  induction h with
  | non => exact .non
  | bl b => exact .bl b
  | int i => exact .int i
  | str s => exact .str s
  | lst h hl _ ih => exact .lst (e _ _ h) hl ih
  | tup h hl _ ih => exact .tup (e _ _ h) hl ih
  | dct h hl _ ih => exact .dct (e _ _ h) hl ih
  | ins h hl _ ih => exact .ins (e _ _ h) hl ih
  | err he hl _ ih => exact .err (he.mono e) hl ih
  | scr h => exact .scr (Evl.ex_l e h)
theorem R.int_inv {i : Int} (h : R K F (.int i) v) : v = .int i := by cases h; rfl
theorem R.bl_inv {b : Bool} (h : R K F (.bl b) v) : v = .bl b := by cases h; rfl
theorem R.str_inv {s : Str} (h : R K F (.str s) v) : v = .str s := by cases h; rfl
theorem R.non_inv (h : R K F .non v) : v = .non := by cases h; rfl
theorem R.lst_inv {ds : List D} (h : R K F (.lst ds) v) : ∃ a xs, v = .ref a ∧ F a = some (.lst xs) ∧ P2 (R K F) ds xs := by
  cases h with
  | lst h hl hr => exact ⟨_, _, rfl, h, hl, hr⟩
theorem R.tup_inv {ds : List D} (h : R K F (.tup ds) v) : ∃ a xs, v = .ref a ∧ F a = some (.tup xs) ∧ P2 (R K F) ds xs := by
  cases h with
  | tup h hl hr => exact ⟨_, _, rfl, h, hl, hr⟩
def PK {α : Type} (R : D → V → Prop) (kvs : List (α × D)) (ws : List (α × V)) : Prop := P2 (fun p q => p.1 = q.1 ∧ R p.2 q.2) kvs ws
theorem PK.of {α : Type} {R : D → V → Prop} {kvs : List (α × D)} {ws : List (α × V)} (hl : kvs.map (·.1) = ws.map (·.1)) (hr : ∀ (i : Nat) (p : α × D) (q : α × V), kvs[i]? = some p → ws[i]? = some q → R p.2 q.2) : PK R kvs ws := by
  refine ⟨by simpa using congrArg List.length hl, fun i p q e1 e2 => ⟨?_, hr i p q e1 e2⟩⟩
  have h1 : (kvs.map (·.1))[i]? = some p.1 := by rw [List.getElem?_map, e1]; rfl
  have h2 : (ws.map (·.1))[i]? = some q.1 := by rw [List.getElem?_map, e2]; rfl
  rw [hl, h2] at h1
  exact (Option.some.inj h1).symm
theorem PK.keys {α : Type} {R : D → V → Prop} {kvs : List (α × D)} {ws : List (α × V)} (h : PK R kvs ws) : kvs.map (·.1) = ws.map (·.1) := by
  refine List.ext_getElem? fun i => ?_
  rw [List.getElem?_map, List.getElem?_map]
  cases e : kvs[i]? with
  | none =>
    have : ws[i]? = none := by
      rw [List.getElem?_eq_none_iff] at e ⊢
      rw [← h.1]; exact e
    rw [this]; rfl
  | some p =>
    obtain ⟨q, e2, r, _⟩ := P2.get h e
    rw [e2]
    show some p.1 = some q.1
    rw [r]
theorem R.dct_inv {kvs : List (Key × D)} (h : R K F (.dct kvs) v) : ∃ a ws, v = .ref a ∧ F a = some (.dK ws) ∧ PK (R K F) kvs ws := by
  cases h with
  | dct h hl hr => exact ⟨_, _, rfl, h, PK.of hl hr⟩
theorem R.ins_inv {C : Addr} {fs : List (Str × D)} (h : R K F (.ins C fs) v) : ∃ a dx ws, v = .ref a ∧ F a = some (.ins C dx ws) ∧ PK (R K F) fs ws := by
  cases h with
  | ins h hl hr => exact ⟨_, _, _, rfl, h, PK.of hl hr⟩
theorem R.err_inv {a C : Addr} {ob : Obj} {fs : List (Str × D)} (h : R K F (.err a ob C fs) v) : ∃ ws, v = .ref a ∧ ErrAt K F a C ob ws ∧ PK (R K F) fs ws := by
  cases h with
  | err he hl hr => exact ⟨_, rfl, he, PK.of hl hr⟩
theorem R.scr_inv {ns : List Int} (h : R K F (.scr ns) v) : ∃ a, v = .ref a ∧ SqL K F a (ns.map V.int) := by
  cases h with
  | scr h => exact ⟨_, rfl, h⟩
theorem R.lst' {a : Addr} {xs : List V} {ds : List D} (h : F a = some (.lst xs)) (hr : P2 (R K F) ds xs) : R K F (.lst ds) (.ref a) := .lst h hr.1 hr.2
theorem R.tup' {a : Addr} {xs : List V} {ds : List D} (h : F a = some (.tup xs)) (hr : P2 (R K F) ds xs) : R K F (.tup ds) (.ref a) := .tup h hr.1 hr.2
theorem R.dct' {a : Addr} {ws : List (Key × V)} {kvs : List (Key × D)} (h : F a = some (.dK ws)) (hr : PK (R K F) kvs ws) : R K F (.dct kvs) (.ref a) := .dct h hr.keys fun i p q a b => (hr.2 i p q a b).2
theorem R.ins' {a C dx : Addr} {ws : List (Str × V)} {fs : List (Str × D)} (h : F a = some (.ins C dx ws)) (hr : PK (R K F) fs ws) : R K F (.ins C fs) (.ref a) := .ins h hr.keys fun i p q a b => (hr.2 i p q a b).2
theorem P2.ints {ns : List Int} {xs : List V} (h : P2 (R K F) (ns.map D.int) xs) : xs = ns.map V.int := by
  refine List.ext_getElem? fun i => ?_
  rw [List.getElem?_map]
  cases e : ns[i]? with
  | none =>
    rw [List.getElem?_eq_none_iff] at e
    have := h.1
    rw [List.length_map] at this
    exact List.getElem?_eq_none_iff.mpr (by omega)
  | some n =>
    obtain ⟨y, e2, r⟩ := h.get (i := i) (x := D.int n) (by rw [List.getElem?_map, e]; rfl)
    rw [e2, r.int_inv]; rfl
theorem P2.ofInts (ns : List Int) : P2 (R K F) (ns.map D.int) (ns.map V.int) := by
  refine ⟨by simp, fun i x y a b => ?_⟩
  rw [List.getElem?_map] at a b
  cases e : ns[i]? with
  | none => rw [e] at a; cases a
  | some n => rw [e] at a b; cases a; cases b; exact .int n
theorem P2.bls {bs : List Bool} {xs : List V} (h : P2 (R K F) (bs.map D.bl) xs) : xs = bs.map V.bl := by
  refine List.ext_getElem? fun i => ?_
  rw [List.getElem?_map]
  cases e : bs[i]? with
  | none =>
    rw [List.getElem?_eq_none_iff] at e
    have := h.1
    rw [List.length_map] at this
    exact List.getElem?_eq_none_iff.mpr (by omega)
  | some n =>
    obtain ⟨y, e2, r⟩ := h.get (i := i) (x := D.bl n) (by rw [List.getElem?_map, e]; rfl)
    rw [e2, r.bl_inv]; rfl
end

/-! ### what a name may hold; the mutable cells -/
inductive Rv where
  | dat (d : D) | cel (k : Nat)
/-- an object that holds cells -/
inductive DO where
  | lst (rs : List Rv) | tup (rs : List Rv) | ins (C : Addr) (fs : List (Str × Rv))
inductive MC where
  | lst (ds : List D) | dct (kvs : List (Key × D)) | ins (C : Addr) (fs : List (Str × D)) | gone | deep (x : DO)
/-- no cell of it may be handed in by itself -/
def MC.bad : MC → Prop
  | .gone => True
  | .deep _ => True
  | _ => False
def MC.isDeep : MC → Prop
  | .deep _ => True
  | _ => False
abbrev rint (i : Int) : Rv := .dat (.int i)
abbrev rbl (b : Bool) : Rv := .dat (.bl b)
abbrev rstr (s : Str) : Rv := .dat (.str s)
abbrev rnon : Rv := .dat .non
abbrev dints (ns : List Int) : D := .lst (ns.map D.int)
abbrev rints (ns : List Int) : Rv := .dat (.lst (ns.map D.int))
def RV (K : PySem.W.Frag) (F : Hp) (As : List Addr) : Rv → V → Prop
  | .dat d, v => R K F d v
  | .cel k, v => ∃ a, As[k]? = some a ∧ v = .ref a
theorem MC.bad_gone {mc : MC} (h : ¬ mc.bad) : mc ≠ .gone := by rintro rfl; exact h trivial
theorem MC.bad_deep {mc : MC} (h : ¬ mc.bad) : ¬ mc.isDeep := by
  cases mc with
  | deep x => exact absurd trivial h
  | _ => exact fun z => z
def DOR (K : PySem.W.Frag) (F : Hp) (As : List Addr) : DO → HO → Prop
  | .lst rs, o => ∃ xs, o = .lst xs ∧ P2 (RV K F As) rs xs
  | .tup rs, o => ∃ xs, o = .tup xs ∧ P2 (RV K F As) rs xs
  | .ins C fs, o => ∃ dx ws, o = .ins C dx ws ∧ P2 (fun (p : Str × Rv) (q : Str × V) => p.1 = q.1 ∧ RV K F As p.2 q.2) fs ws
def MCR (K : PySem.W.Frag) (F : Hp) (As : List Addr) : MC → HO → Prop
  | .lst ds, o => ∃ xs, o = .lst xs ∧ P2 (R K F) ds xs
  | .dct kvs, o => ∃ ws, o = .dK ws ∧ PK (R K F) kvs ws
  | .ins C fs, o => ∃ dx ws, o = .ins C dx ws ∧ PK (R K F) fs ws
  | .gone, _ => True
  | .deep x, o => DOR K F As x o
/-- what is known of the slots -/
def ES (K : PySem.W.Frag) (F : Hp) (As : List Addr) (σ : St) (E : List (Option Rv)) : Prop :=
  E.length = σ.length ∧ ∀ (i : Nat) (r : Rv), E[i]? = some (some r) → ∃ v, σ[i]? = some (some v) ∧ RV K F As r v
structure Base where
  F0 : Hp
  H0 : Hp
  P : Addr → Prop
  A0 : List Addr
structure Sta (K : PySem.W.Frag) (B : Base) (F : Hp) (As : List Addr) (M : List MC) (σ : St) (E : List (Option Rv)) (H : Hp) : Prop where
  ex : Ex F H
  len : As.length = M.length
  nd : As.Nodup
  cell : ∀ (k : Nat) (a : Addr) (mc : MC), As[k]? = some a → M[k]? = some mc → mc ≠ .gone → F a = none ∧ ∃ o, H a = some o ∧ MCR K F As mc o
  slots : ES K F As σ E
  bF : Ex B.F0 F
  bH : ∀ a o, B.H0 a = some o → ¬ B.P a → H a = some o
  bN : ∀ a o, B.H0 a = some o → B.F0 a = none → F a = none
  bA : ∀ a ∈ As, B.P a ∨ B.H0 a = none
  bK : ∀ a o, B.H0 a = some o → ∃ u, H a = some u
  kn : ∀ a ∈ As, ∃ u, H a = some u
  pA : B.A0 <+: As
section
variable {K : PySem.W.Frag} {B : Base} {F F' H H' : Hp} {As As' : List Addr} {M M' : List MC} {σ : St} {E : List (Option Rv)} {r : Rv} {v : V}
theorem RV.mono (h : RV K F As r v) (e : Ex F F') (p : As <+: As') : RV K F' As' r v := by
  cases r with
  | dat d => exact R.mono h e
  | cel k =>
    obtain ⟨a, h1, h2⟩ := h
    obtain ⟨t, rfl⟩ := p
    exact ⟨a, by rw [List.getElem?_append_left (List.getElem?_eq_some_iff.mp h1).1]; exact h1, h2⟩
theorem DOR.mono {x : DO} {o : HO} (h : DOR K F As x o) (e : Ex F F') (p : As <+: As') : DOR K F' As' x o := by
  cases x with
  | lst rs => obtain ⟨xs, h1, h2⟩ := h; exact ⟨xs, h1, h2.imp fun _ _ z => z.mono e p⟩
  | tup rs => obtain ⟨xs, h1, h2⟩ := h; exact ⟨xs, h1, h2.imp fun _ _ z => z.mono e p⟩
  | ins C fs => obtain ⟨dx, ws, h1, h2⟩ := h; exact ⟨dx, ws, h1, h2.imp fun _ _ z => ⟨z.1, z.2.mono e p⟩⟩
theorem MCR.mono2 {mc : MC} {o : HO} (h : MCR K F As mc o) (e : Ex F F') (p : As <+: As') : MCR K F' As' mc o := by
  cases mc with
  | lst ds => obtain ⟨xs, h1, h2⟩ := h; exact ⟨xs, h1, h2.imp fun _ _ z => z.mono e⟩
  | dct kvs => obtain ⟨xs, h1, h2⟩ := h; exact ⟨xs, h1, h2.imp fun _ _ z => ⟨z.1, z.2.mono e⟩⟩
  | ins C fs => obtain ⟨dx, ws, h1, h2⟩ := h; exact ⟨dx, ws, h1, h2.imp fun _ _ z => ⟨z.1, z.2.mono e⟩⟩
  | gone => trivial
  | deep x => exact DOR.mono h e p
theorem MCR.flat {mc : MC} {o : HO} (h : MCR K F As mc o) (n : ¬ mc.isDeep) : MCR K F As' mc o := by
  cases mc with
  | deep x => exact absurd trivial n
  | _ => exact h
theorem MCR.mono {mc : MC} {o : HO} (h : MCR K F As mc o) (e : Ex F F') : MCR K F' As mc o := by
  cases mc with
  | lst ds => obtain ⟨xs, h1, h2⟩ := h; exact ⟨xs, h1, h2.imp fun _ _ z => z.mono e⟩
  | dct kvs => obtain ⟨xs, h1, h2⟩ := h; exact ⟨xs, h1, h2.imp fun _ _ z => ⟨z.1, z.2.mono e⟩⟩
  | ins C fs => obtain ⟨dx, ws, h1, h2⟩ := h; exact ⟨dx, ws, h1, h2.imp fun _ _ z => ⟨z.1, z.2.mono e⟩⟩
  | gone => trivial
  | deep x => exact DOR.mono h e (List.prefix_refl _)
theorem ES.mono (h : ES K F As σ E) (e : Ex F F') (p : As <+: As') : ES K F' As' σ E := ⟨h.1, fun i r hi => by
  obtain ⟨v, h1, h2⟩ := h.2 i r hi
  exact ⟨v, h1, h2.mono e p⟩⟩
theorem ES.set (h : ES K F As σ E) {i : Nat} (q : RV K F As r v) : ES K F As (σ.set i (some v)) (E.set i (some r)) := by
  refine ⟨by rw [List.length_set, List.length_set, h.1], fun j r' hj => ?_⟩
  by_cases e : i = j
  · subst e
    have hi : i < E.length := by
      have := (List.getElem?_eq_some_iff.mp hj).1
      rwa [List.length_set] at this
    rw [List.getElem?_set_self hi] at hj
    cases hj
    exact ⟨v, by rw [List.getElem?_set_self (h.1 ▸ hi)], q⟩
  · rw [List.getElem?_set_ne e] at hj
    rw [List.getElem?_set_ne e]
    exact h.2 j r' hj
theorem Sta.fresh (S : Sta K B F As M σ E H) {p : Addr} (hp : H p = none) : F p = none := Evl.fresh_back S.ex hp
theorem Sta.notin (S : Sta K B F As M σ E H) {p : Addr} (hp : H p = none) : ∀ (k : Nat) (a : Addr) (mc : MC), As[k]? = some a → M[k]? = some mc → mc ≠ .gone → a ≠ p := fun k a mc h1 h2 h3 e => by
  obtain ⟨_, o, ho, _⟩ := S.cell k a mc h1 h2 h3
  rw [e, hp] at ho
  cases ho
/-- all cells of the state are live -/
def Live (_ : List MC) : Prop := True
theorem Live.nil : Live [] := trivial
/-- what is known of fewer slots -/
def Ele : List (Option Rv) → List (Option Rv) → Prop
  | [], [] => True
  | none :: a, _ :: b => Ele a b
  | some r :: a, x :: b => x = some r ∧ Ele a b
  | _, _ => False
theorem Ele.get : ∀ {E E' : List (Option Rv)} {i : Nat} {r : Rv}, Ele E E' → E[i]? = some (some r) → E'[i]? = some (some r)
  | none :: a, y :: b, 0, r, h, e => by simp at e
  | none :: a, y :: b, i + 1, r, h, e => by
    have h : Ele a b := h
    simpa using h.get (i := i) (by simpa using e)
  | some x :: a, y :: b, 0, r, h, e => by
    have h : y = some x ∧ Ele a b := h
    rw [h.1]; simpa using e
  | some x :: a, y :: b, i + 1, r, h, e => by
    have h : y = some x ∧ Ele a b := h
    simpa using h.2.get (i := i) (by simpa using e)
theorem Ele.length : ∀ {E E' : List (Option Rv)}, Ele E E' → E.length = E'.length
  | [], [], _ => rfl
  | none :: a, y :: b, h => by
    have h : Ele a b := h
    simp [h.length]
  | some x :: a, y :: b, h => by
    have h : y = some x ∧ Ele a b := h
    simp [h.2.length]
theorem Ele.refl : ∀ E : List (Option Rv), Ele E E
  | [] => trivial
  | none :: a => Ele.refl a
  | some _ :: a => ⟨rfl, Ele.refl a⟩
theorem Sta.weak {E' : List (Option Rv)} (S : Sta K B F As M σ E H) (h : Ele E' E) : Sta K B F As M σ E' H :=
  { S with slots := ⟨by rw [h.length]; exact S.slots.1, fun i r hi => S.slots.2 i r (h.get hi)⟩ }
theorem Sta.set (S : Sta K B F As M σ E H) {i : Nat} (q : RV K F As r v) : Sta K B F As M (σ.set i (some v)) (E.set i (some r)) H :=
  { S with slots := S.slots.set q }
theorem prefix_get {i : Nat} {a : Addr} (p : As <+: As') (h : As[i]? = some a) : As'[i]? = some a := by
  obtain ⟨t, rfl⟩ := p
  rw [List.getElem?_append_left (List.getElem?_eq_some_iff.mp h).1]; exact h
theorem Sta.off (S : Sta K B F As M σ E H) {p : Addr} (hp : H p = none) : p ∉ As := fun h => by
  obtain ⟨u, e⟩ := S.kn p h
  rw [hp] at e; cases e
theorem Sta.base_off (S : Sta K B F As M σ E H) {p : Addr} (hp : H p = none) : B.H0 p = none := by
  cases e : B.H0 p with
  | none => rfl
  | some o =>
    obtain ⟨u, e2⟩ := S.bK p o e
    rw [hp] at e2; cases e2
/-- a new frozen object -/
theorem Sta.newF (S : Sta K B F As M σ E H) {p : Addr} {o : HO} (hp : H p = none) : Sta K B (upd F p o) As M σ E (upd H p o) ∧ Ex F (upd F p o) := by
  have ex : Ex F (upd F p o) := Ex.new (S.fresh hp)
  have b0 := S.base_off hp
  refine ⟨⟨fun a u h => ?_, S.len, S.nd, fun k a mc h1 h2 h3 => ?_, S.slots.mono ex (List.prefix_refl _), S.bF.trans ex, fun a u h hP => ?_, fun a u h h0 => ?_, S.bA, fun a u h => ?_, fun a h => ?_, S.pA⟩, ex⟩
  · by_cases e : a = p
    · subst e; rw [upd_same] at h ⊢; exact h
    · rw [upd_ne e] at h ⊢; exact S.ex a u h
  · obtain ⟨h4, o', h5, h6⟩ := S.cell k a mc h1 h2 h3
    have e : a ≠ p := ne_of_none h5 hp
    exact ⟨by rw [upd_ne e]; exact h4, o', by rw [upd_ne e]; exact h5, h6.mono ex⟩
  · have := S.bH a u h hP
    rw [upd_ne (ne_of_none this hp)]; exact this
  · rw [upd_ne (ne_of_none h b0)]; exact S.bN a u h h0
  · obtain ⟨z, e⟩ := S.bK a u h
    exact ⟨z, by rw [upd_ne (ne_of_none e hp)]; exact e⟩
  · obtain ⟨z, e⟩ := S.kn a h
    exact ⟨z, by rw [upd_ne (ne_of_none e hp)]; exact e⟩
theorem getElem?_concat {α : Type} {l : List α} {x y : α} {k : Nat} (h : (l ++ [x])[k]? = some y) : l[k]? = some y ∨ (k = l.length ∧ y = x) := by
  by_cases hk : k < l.length
  · rw [List.getElem?_append_left hk] at h; exact .inl h
  · rw [List.getElem?_append_right (Nat.le_of_not_lt hk)] at h
    have : k - l.length = 0 := by
      have := (List.getElem?_eq_some_iff.mp h).1
      simp at this; omega
    rw [this] at h
    exact .inr ⟨by omega, by simpa using h.symm⟩
/-- a new mutable cell -/
theorem Sta.newM (S : Sta K B F As M σ E H) {p : Addr} {o : HO} {mc : MC} (hp : H p = none) (ho : MCR K F (As ++ [p]) mc o) : Sta K B F (As ++ [p]) (M ++ [mc]) σ E (upd H p o) := by
  have b0 := S.base_off hp
  have hA := S.off hp
  refine ⟨fun a u h => ?_, by rw [List.length_append, List.length_append, S.len]; rfl, ?_, fun k a mc' h1 h2 h3 => ?_, S.slots.mono (Ex.refl F) (List.prefix_append _ _), S.bF, fun a u h hP => ?_, S.bN, fun a h => ?_, fun a u h => ?_, fun a h => ?_, S.pA.trans (List.prefix_append _ _)⟩
  · rw [upd_ne (ne_of_none h (S.fresh hp))]; exact S.ex a u h
  · rw [List.nodup_append]
    refine ⟨S.nd, by simp, fun a ha b hb e => ?_⟩
    simp at hb
    subst e; subst hb; exact hA ha
  · rcases getElem?_concat h1 with q1 | ⟨q1, q2⟩
    · rcases getElem?_concat h2 with q3 | ⟨q3, q4⟩
      · obtain ⟨h4, o', h5, h6⟩ := S.cell k a mc' q1 q3 h3
        exact ⟨h4, o', by rw [upd_ne (ne_of_none h5 hp)]; exact h5, h6.mono2 (Ex.refl F) (List.prefix_append _ _)⟩
      · have := (List.getElem?_eq_some_iff.mp q1).1
        rw [S.len] at this; omega
    · rcases getElem?_concat h2 with q3 | ⟨q3, q4⟩
      · have := (List.getElem?_eq_some_iff.mp q3).1
        rw [← S.len] at this; omega
      · subst q2; subst q4
        exact ⟨S.fresh hp, o, upd_same, ho⟩
  · have := S.bH a u h hP
    rw [upd_ne (ne_of_none this hp)]; exact this
  · rcases List.mem_append.mp h with h | h
    · exact S.bA a h
    · simp at h; subst h; exact .inr b0
  · obtain ⟨z, e⟩ := S.bK a u h
    exact ⟨z, by rw [upd_ne (ne_of_none e hp)]; exact e⟩
  · rcases List.mem_append.mp h with h | h
    · obtain ⟨z, e⟩ := S.kn a h
      exact ⟨z, by rw [upd_ne (ne_of_none e hp)]; exact e⟩
    · simp at h; subst h; exact ⟨o, upd_same⟩
theorem Sta.uniq (S : Sta K B F As M σ E H) {j k : Nat} {a : Addr} (h1 : As[j]? = some a) (h2 : As[k]? = some a) : j = k := nd_ix S.nd h1 h2
/-- a cell changed -/
theorem Sta.chg (S : Sta K B F As M σ E H) {k : Nat} {a : Addr} {o : HO} {mc0 mc : MC} (ha : As[k]? = some a) (hm : M[k]? = some mc0) (h0 : mc0 ≠ .gone) (ho : MCR K F As mc o) : Sta K B F As (M.set k mc) σ E (upd H a o) := by
  obtain ⟨f0, o0, q0, _⟩ := S.cell k a mc0 ha hm h0
  refine ⟨Ex.mut S.ex f0, by rw [List.length_set]; exact S.len, S.nd, fun j b mc' h1 h2 h3 => ?_, S.slots, S.bF, fun b u h hP => ?_, S.bN, S.bA, fun b u h => ?_, fun b h => ?_, S.pA⟩
  · by_cases e : k = j
    · subst e
      rw [ha] at h1; cases h1
      have hk : k < M.length := (List.getElem?_eq_some_iff.mp hm).1
      rw [List.getElem?_set_self hk] at h2
      cases h2
      exact ⟨f0, o, upd_same, ho⟩
    · rw [List.getElem?_set_ne e] at h2
      obtain ⟨h4, o', h5, h6⟩ := S.cell j b mc' h1 h2 h3
      have : b ≠ a := fun z => e (S.uniq ha (z ▸ h1))
      exact ⟨h4, o', by rw [upd_ne this]; exact h5, h6⟩
  · have hb : b ≠ a := by
      intro z; subst z
      rcases S.bA b (List.mem_of_getElem? ha) with hp | hn
      · exact hP hp
      · rw [hn] at h; cases h
    rw [upd_ne hb]; exact S.bH b u h hP
  · by_cases e : b = a
    · subst e; exact ⟨o, upd_same⟩
    · obtain ⟨z, q⟩ := S.bK b u h
      exact ⟨z, by rw [upd_ne e]; exact q⟩
  · by_cases e : b = a
    · subst e; exact ⟨o, upd_same⟩
    · obtain ⟨z, q⟩ := S.kn b h
      exact ⟨z, by rw [upd_ne e]; exact q⟩
/-- a cell of the def's own is frozen -/
theorem Sta.frz (S : Sta K B F As M σ E H) {k : Nat} {a : Addr} {o : HO} {mc : MC} (ha : As[k]? = some a) (hm : M[k]? = some mc) (h0 : mc ≠ .gone) (ho : H a = some o) (hP : B.H0 a = none) : Sta K B (L2.upd F a o) As (M.set k .gone) σ E H ∧ Ex F (L2.upd F a o) := by
  obtain ⟨f0, o0, q0, _⟩ := S.cell k a mc ha hm h0
  have ex : Ex F (L2.upd F a o) := Ex.new f0
  refine ⟨⟨fun b u h => ?_, by rw [List.length_set]; exact S.len, S.nd, fun j b mc' h1 h2 h3 => ?_, S.slots.mono ex (List.prefix_refl _), S.bF.trans ex, S.bH, fun b u h h1 => ?_, S.bA, S.bK, S.kn, S.pA⟩, ex⟩
  · by_cases e : b = a
    · subst e; rw [upd_same] at h; rw [← h]; exact ho
    · rw [upd_ne e] at h; exact S.ex b u h
  · have hk : k < M.length := (List.getElem?_eq_some_iff.mp hm).1
    by_cases e : k = j
    · subst e
      rw [List.getElem?_set_self hk] at h2
      cases h2
      exact absurd rfl h3
    · rw [List.getElem?_set_ne e] at h2
      obtain ⟨h4, o', h5, h6⟩ := S.cell j b mc' h1 h2 h3
      have : b ≠ a := fun z => e (S.uniq ha (z ▸ h1))
      exact ⟨by rw [upd_ne this]; exact h4, o', h5, h6.mono ex⟩
  · rw [upd_ne (fun z => by rw [z, hP] at h; cases h)]; exact S.bN b u h h1
/-- the state as a base of its own -/
def Sta.self (F H : Hp) (As : List Addr) : Base := ⟨F, H, (· ∈ As), As⟩
theorem Sta.toSelf (S : Sta K B F As M σ E H) (hL : Live M) : Sta K (Sta.self F H As) F As M σ E H :=
  ⟨S.ex, S.len, S.nd, S.cell, S.slots, Ex.refl F, fun a o h _ => h, fun a o _ h => h, fun a h => .inl h, fun a o h => ⟨o, h⟩, S.kn, List.prefix_refl _⟩
theorem Sta.rebase {σ' : St} {E' : List (Option Rv)} (S : Sta K B F As M σ E H) (S' : Sta K (Sta.self F H As) F' As' M' σ' E' H') : Sta K B F' As' M' σ' E' H' := by
  refine ⟨S'.ex, S'.len, S'.nd, S'.cell, S'.slots, S.bF.trans S'.bF, fun a o h hP => ?_, fun a o h h0 => ?_, fun a h => ?_, fun a o h => ?_, S'.kn, S.pA.trans S'.pA⟩
  · refine S'.bH a o (S.bH a o h hP) fun hA => ?_
    rcases S.bA a hA with q | q
    · exact hP q
    · rw [q] at h; cases h
  · obtain ⟨u, e⟩ := S.bK a o h
    exact S'.bN a u e (S.bN a o h h0)
  · rcases S'.bA a h with q | q
    · exact S.bA a q
    · exact .inr (S.base_off q)
  · obtain ⟨u, e⟩ := S.bK a o h
    exact S'.bK a u e
end
end DL
set_option Elab.async false
set_option linter.all false
set_option maxRecDepth 100000
set_option maxHeartbeats 2000000
/-! DL, second part: what an expression, a test, a list of arguments is worth, by data alone. -/
namespace DL
open PySem L2
open Evl (Ex)

def EvD (K : PySem.W.Frag) (te : TE) (M : List MC) (E : List (Option Rv)) (M' : List MC) (r : Rv) : Prop :=
  ∀ (B : Base) (F : Hp) (As : List Addr) (σ : St) (H : Hp), Sta K B F As M σ E H → ∀ Q : VK, (∀ v F' As' H', Sta K B F' As' M' σ E H' → Ex F F' → As <+: As' → RV K F' As' r v → Q v H') → te σ H Q
def EvT (K : PySem.W.Frag) (tt : TT) (M : List MC) (E : List (Option Rv)) (M' : List MC) (b : Bool) : Prop :=
  ∀ (B : Base) (F : Hp) (As : List Addr) (σ : St) (H : Hp), Sta K B F As M σ E H → ∀ Q : Bool → Hp → Prop, (∀ F' As' H', Sta K B F' As' M' σ E H' → Ex F F' → As <+: As' → Q b H') → tt σ H Q
def EvA (K : PySem.W.Frag) (ta : TA) (M : List MC) (E : List (Option Rv)) (M' : List MC) (rs : List Rv) : Prop :=
  ∀ (B : Base) (F : Hp) (As : List Addr) (σ : St) (H : Hp), Sta K B F As M σ E H → ∀ Q : List V → Hp → Prop, (∀ vs F' As' H', Sta K B F' As' M' σ E H' → Ex F F' → As <+: As' → P2 (RV K F' As') rs vs → Q vs H') → ta σ H Q
def EvO (K : PySem.W.Frag) (to : TO) (M : List MC) (E : List (Option Rv)) (M' : List MC) (o : Option Int) : Prop :=
  ∀ (B : Base) (F : Hp) (As : List Addr) (σ : St) (H : Hp), Sta K B F As M σ E H → ∀ Q : Option Int → Hp → Prop, (∀ F' As' H', Sta K B F' As' M' σ E H' → Ex F F' → As <+: As' → Q o H') → to σ H Q
/-- an operator by values -/
def OpD (K : PySem.W.Frag) (op : R2) (M : List MC) (x y : Rv) (M' : List MC) (z : Rv) : Prop :=
  ∀ (B : Base) (F : Hp) (As : List Addr) (σ : St) (E : List (Option Rv)) (H : Hp) (v w : V), Sta K B F As M σ E H → RV K F As x v → RV K F As y w → ∀ Q : VK, (∀ u F' As' H', Sta K B F' As' M' σ E H' → Ex F F' → As <+: As' → RV K F' As' z u → Q u H') → op v w H Q
def UnD (K : PySem.W.Frag) (op : V → Hp → VK → Prop) (M : List MC) (x : Rv) (M' : List MC) (z : Rv) : Prop :=
  ∀ (B : Base) (F : Hp) (As : List Addr) (σ : St) (E : List (Option Rv)) (H : Hp) (v : V), Sta K B F As M σ E H → RV K F As x v → ∀ Q : VK, (∀ u F' As' H', Sta K B F' As' M' σ E H' → Ex F F' → As <+: As' → RV K F' As' z u → Q u H') → op v H Q
def CaD (K : PySem.W.Frag) (op : List V → Hp → VK → Prop) (M : List MC) (xs : List Rv) (M' : List MC) (z : Rv) : Prop :=
  ∀ (B : Base) (F : Hp) (As : List Addr) (σ : St) (E : List (Option Rv)) (H : Hp) (vs : List V), Sta K B F As M σ E H → P2 (RV K F As) xs vs → ∀ Q : VK, (∀ u F' As' H', Sta K B F' As' M' σ E H' → Ex F F' → As <+: As' → RV K F' As' z u → Q u H') → op vs H Q
def MeD (K : PySem.W.Frag) (op : V → List V → Hp → VK → Prop) (M : List MC) (x : Rv) (xs : List Rv) (M' : List MC) (z : Rv) : Prop :=
  ∀ (B : Base) (F : Hp) (As : List Addr) (σ : St) (E : List (Option Rv)) (H : Hp) (v : V) (vs : List V), Sta K B F As M σ E H → RV K F As x v → P2 (RV K F As) xs vs → ∀ Q : VK, (∀ u F' As' H', Sta K B F' As' M' σ E H' → Ex F F' → As <+: As' → RV K F' As' z u → Q u H') → op v vs H Q

section
variable {K : PySem.W.Frag} {M M0 M1 M2 M3 M' : List MC} {E : List (Option Rv)} {ta tb te tx : TE} {x y z r : Rv} {op : R2} {xs rs : List Rv} {b : Bool}
theorem RV.m {F F' : Hp} {As As' : List Addr} {v : V} (h : RV K F As r v) (e : Ex F F') (p : As <+: As') : RV K F' As' r v := h.mono e p
theorem P2.m {F F' : Hp} {As As' : List Addr} {vs : List V} (h : P2 (RV K F As) rs vs) (e : Ex F F') (p : As <+: As') : P2 (RV K F' As') rs vs := h.imp fun _ _ q => q.mono e p
/-! ### the making of these -/
theorem ev_var {i : Nat} (h : E[i]? = some (some r)) : EvD K (tVar i) M E M r := fun B F As σ H S Q q => by
  obtain ⟨v, e, rv⟩ := S.slots.2 i r h
  exact ⟨v, e, q v F As H S (Ex.refl F) (List.prefix_refl _) rv⟩
theorem ev_c {v : V} {d : D} (h : ∀ F, R K F d v) : EvD K (tC v) M E M (.dat d) := fun B F As σ H S Q q => q v F As H S (Ex.refl F) (List.prefix_refl _) (h F)
theorem ev_int {i : Int} : EvD K (tC (.int i)) M E M (rint i) := ev_c fun _ => .int i
theorem ev_bl {i : Bool} : EvD K (tC (.bl i)) M E M (rbl i) := ev_c fun _ => .bl i
theorem ev_str {s : Str} : EvD K (tC (.str s)) M E M (rstr s) := ev_c fun _ => .str s
theorem ev_non : EvD K (tC .non) M E M rnon := ev_c fun _ => .non
theorem ev_op (ha : EvD K ta M E M1 x) (hb : EvD K tb M1 E M2 y) (hr : OpD K op M2 x y M3 z) : EvD K (tOp op ta tb) M E M3 z := fun B F As σ H S Q q =>
  ha B F As σ H S _ fun v F1 As1 H1 S1 e1 p1 r1 => hb B F1 As1 σ H1 S1 _ fun w F2 As2 H2 S2 e2 p2 r2 =>
    hr B F2 As2 σ E H2 v w S2 (r1.m e2 p2) r2 Q fun u F3 As3 H3 S3 e3 p3 r3 => q u F3 As3 H3 S3 (e1.trans (e2.trans e3)) (p1.trans (p2.trans p3)) r3
theorem ev_un {f : V → Hp → VK → Prop} (ha : EvD K ta M E M1 x) (hr : UnD K f M1 x M2 z) : EvD K (tUn f ta) M E M2 z := fun B F As σ H S Q q =>
  ha B F As σ H S _ fun v F1 As1 H1 S1 e1 p1 r1 => hr B F1 As1 σ E H1 v S1 r1 Q fun u F3 As3 H3 S3 e3 p3 r3 => q u F3 As3 H3 S3 (e1.trans e3) (p1.trans p3) r3
theorem ea_nil : EvA K tNil M E M [] := fun B F As σ H S Q q => q [] F As H S (Ex.refl F) (List.prefix_refl _) P2.nil
theorem ea_cons {t : TA} (ha : EvD K ta M E M1 x) (h : EvA K t M1 E M2 xs) : EvA K (tCons ta t) M E M2 (x :: xs) := fun B F As σ H S Q q =>
  ha B F As σ H S _ fun v F1 As1 H1 S1 e1 p1 r1 => h B F1 As1 σ H1 S1 _ fun vs F2 As2 H2 S2 e2 p2 r2 => q _ F2 As2 H2 S2 (e1.trans e2) (p1.trans p2) (P2.cons (r1.m e2 p2) r2)
theorem ev_cb {f : List V → Hp → VK → Prop} {t : TA} (ha : EvA K t M E M1 xs) (hr : CaD K f M1 xs M2 z) : EvD K (tCB f t) M E M2 z := fun B F As σ H S Q q =>
  ha B F As σ H S _ fun v F1 As1 H1 S1 e1 p1 r1 => hr B F1 As1 σ E H1 v S1 r1 Q fun u F3 As3 H3 S3 e3 p3 r3 => q u F3 As3 H3 S3 (e1.trans e3) (p1.trans p3) r3
/-- the state's lists -/
def IsLst (M : List MC) (r : Rv) (ds : List D) : Prop := r = .dat (.lst ds) ∨ ∃ k, r = .cel k ∧ M[k]? = some (.lst ds)
def IsDct (M : List MC) (r : Rv) (kvs : List (Key × D)) : Prop := r = .dat (.dct kvs) ∨ ∃ k, r = .cel k ∧ M[k]? = some (.dct kvs)
theorem IsLst.view {B : Base} {F H : Hp} {As : List Addr} {σ : St} {ds : List D} {v : V} (h : IsLst M r ds) (S : Sta K B F As M σ E H) (q : RV K F As r v) : ∃ a vs, v = .ref a ∧ H a = some (.lst vs) ∧ P2 (R K F) ds vs := by
  rcases h with rfl | ⟨k, rfl, hk⟩
  · obtain ⟨a, vs, h1, h2, h3⟩ := R.lst_inv q
    exact ⟨a, vs, h1, S.ex _ _ h2, h3⟩
  · obtain ⟨a, ha, hv⟩ := q
    obtain ⟨_, o, ho, vs, rfl, h3⟩ := S.cell k a _ ha hk (by intro z; cases z)
    exact ⟨a, vs, hv, ho, h3⟩
theorem IsDct.view {B : Base} {F H : Hp} {As : List Addr} {σ : St} {kvs : List (Key × D)} {v : V} (h : IsDct M r kvs) (S : Sta K B F As M σ E H) (q : RV K F As r v) : ∃ a ws, v = .ref a ∧ H a = some (.dK ws) ∧ PK (R K F) kvs ws := by
  rcases h with rfl | ⟨k, rfl, hk⟩
  · obtain ⟨a, vs, h1, h2, h3⟩ := R.dct_inv q
    exact ⟨a, vs, h1, S.ex _ _ h2, h3⟩
  · obtain ⟨a, ha, hv⟩ := q
    obtain ⟨_, o, ho, vs, rfl, h3⟩ := S.cell k a _ ha hk (by intro z; cases z)
    exact ⟨a, vs, hv, ho, h3⟩
theorem sz {n : Nat} (h : n ≤ 16777216) : n ≤ sizeLine := by rw [sizeLine_eq]; exact h
theorem szlt {n : Nat} (h : n < 16777216) : n < sizeLine := by rw [sizeLine_eq]; exact h
theorem P2.dats {F : Hp} {As : List Addr} {ds : List D} {vs : List V} (h : P2 (RV K F As) (ds.map Rv.dat) vs) : P2 (R K F) ds vs :=
  ⟨by have := h.1; rwa [List.length_map] at this, fun i d v a b => h.2 i (.dat d) v (by rw [List.getElem?_map, a]; rfl) b⟩
/-- all arguments are data -/
def dats : List Rv → Option (List D)
  | [] => some []
  | .dat d :: rs => (dats rs).map (d :: ·)
  | .cel _ :: _ => none
theorem dats_eq : ∀ {rs : List Rv} {ds : List D}, dats rs = some ds → rs = ds.map Rv.dat
  | [], ds, h => by cases h; rfl
  | .dat d :: rs, ds, h => by
    unfold dats at h
    cases e : dats rs with
    | none => rw [e] at h; cases h
    | some es => rw [e] at h; cases h; rw [dats_eq e]; rfl
  | .cel _ :: _, ds, h => by cases h
theorem ev_tup {t : TA} {ds : List D} (ha : EvA K t M E M1 rs) (hd : dats rs = some ds) (hl : rs.length ≤ 16777216) : EvD K (tTup t) M E M1 (.dat (.tup ds)) := fun B F As σ H S Q q =>
  ha B F As σ H S _ fun vs F1 As1 H1 S1 e1 p1 r1 => ⟨sz (r1.1 ▸ hl), fun p hp => by
    obtain ⟨S2, e2⟩ := S1.newF (o := .tup vs) hp
    rw [dats_eq hd] at r1
    exact q _ _ As1 _ S2 (e1.trans e2) p1 (R.tup' upd_same (r1.dats.imp fun _ _ z => z.mono e2))⟩
theorem ev_lst {t : TA} {ds : List D} (ha : EvA K t M E M1 rs) (hd : dats rs = some ds) (hl : rs.length ≤ 16777216) : EvD K (tLst t) M E M1 (.dat (.lst ds)) := fun B F As σ H S Q q =>
  ha B F As σ H S _ fun vs F1 As1 H1 S1 e1 p1 r1 => ⟨sz (r1.1 ▸ hl), fun p hp => by
    obtain ⟨S2, e2⟩ := S1.newF (o := .lst vs) hp
    rw [dats_eq hd] at r1
    exact q _ _ As1 _ S2 (e1.trans e2) p1 (R.lst' upd_same (r1.dats.imp fun _ _ z => z.mono e2))⟩
/-- a display that will be changed: a new cell -/
theorem ev_lstM {t : TA} {ds : List D} (ha : EvA K t M E M1 rs) (hd : dats rs = some ds) (hl : rs.length ≤ 16777216) : EvD K (tLst t) M E (M1 ++ [.lst ds]) (.cel M1.length) := fun B F As σ H S Q q =>
  ha B F As σ H S _ fun vs F1 As1 H1 S1 e1 p1 r1 => ⟨sz (r1.1 ▸ hl), fun p hp => by
    rw [dats_eq hd] at r1
    have S2 := S1.newM (o := .lst vs) (mc := .lst ds) hp ⟨vs, rfl, r1.dats⟩
    exact q _ _ _ _ S2 e1 (p1.trans (List.prefix_append _ _)) ⟨p, by rw [List.getElem?_append_right (by rw [S1.len]; exact Nat.le_refl _), S1.len]; simp, rfl⟩⟩
theorem ev_dnewM : EvD K tDNewK M E (M ++ [.dct []]) (.cel M.length) := fun B F As σ H S Q q p hp => by
  have S2 := S.newM (o := .dK []) (mc := .dct []) hp ⟨[], rfl, P2.nil⟩
  exact q _ _ _ _ S2 (Ex.refl F) (List.prefix_append _ _) ⟨p, by rw [List.getElem?_append_right (by rw [S.len]; exact Nat.le_refl _), S.len]; simp, rfl⟩
theorem ev_dnew : EvD K tDNewK M E M (.dat (.dct [])) := fun B F As σ H S Q q p hp => by
  obtain ⟨S2, e2⟩ := S.newF (o := .dK []) hp
  exact q _ _ As _ S2 e2 (List.prefix_refl _) (R.dct' upd_same P2.nil)
/-! ### tests -/
theorem et_test (h : EvD K te M E M1 (rbl b)) : EvT K (tTest te) M E M1 b := fun B F As σ H S Q q => h B F As σ H S _ fun v F1 As1 H1 S1 e1 p1 r1 => ⟨b, R.bl_inv r1, q F1 As1 H1 S1 e1 p1⟩
theorem et_B (h : EvD K te M E M1 (rbl b)) : EvT K (tB te) M E M1 b := fun B F As σ H S Q q => h B F As σ H S _ fun v F1 As1 H1 S1 e1 p1 r1 => ⟨b, R.bl_inv r1, q F1 As1 H1 S1 e1 p1⟩
theorem et_and {t u : TT} {c : Bool} (h1 : EvT K t M E M1 b) (h2 : b = true → EvT K u M1 E M1 c) : EvT K (tAnd t u) M E M1 (b && c) := fun B F As σ H S Q q => h1 B F As σ H S _ fun F1 As1 H1 S1 e1 p1 => by
  cases b with
  | true => exact h2 rfl B F1 As1 σ H1 S1 Q fun F2 As2 H2 S2 e2 p2 => q F2 As2 H2 S2 (e1.trans e2) (p1.trans p2)
  | false => exact q F1 As1 H1 S1 e1 p1
theorem et_or {t u : TT} {c : Bool} (h1 : EvT K t M E M1 b) (h2 : b = false → EvT K u M1 E M1 c) : EvT K (tOr t u) M E M1 (b || c) := fun B F As σ H S Q q => h1 B F As σ H S _ fun F1 As1 H1 S1 e1 p1 => by
  cases b with
  | true => exact q F1 As1 H1 S1 e1 p1
  | false => exact h2 rfl B F1 As1 σ H1 S1 Q fun F2 As2 H2 S2 e2 p2 => q F2 As2 H2 S2 (e1.trans e2) (p1.trans p2)
theorem et_not {t : TT} (h : EvT K t M E M1 b) : EvT K (tNot t) M E M1 (!b) := fun B F As σ H S Q q => h B F As σ H S _ fun F1 As1 H1 S1 e1 p1 => q F1 As1 H1 S1 e1 p1
theorem et_is {t : TT} {c : Bool} (h : EvT K t M E M1 b) (e : b = c) : EvT K t M E M1 c := e ▸ h
theorem ev_is {r' : Rv} (h : EvD K te M E M1 r) (e : r = r') : EvD K te M E M1 r' := e ▸ h
theorem ev_isM {M' : List MC} (h : EvD K te M E M1 r) (e : M1 = M') : EvD K te M E M' r := e ▸ h
theorem ev_andV {c : Bool} (h1 : EvD K ta M E M1 (rbl b)) (h2 : b = true → EvD K tb M1 E M1 (rbl c)) : EvD K (tAndV ta tb) M E M1 (rbl (b && c)) := fun B F As σ H S Q q => h1 B F As σ H S _ fun v F1 As1 H1 S1 e1 p1 r1 => ⟨b, R.bl_inv r1, by
  cases b with
  | true => exact h2 rfl B F1 As1 σ H1 S1 Q fun v F2 As2 H2 S2 e2 p2 r2 => q v F2 As2 H2 S2 (e1.trans e2) (p1.trans p2) r2
  | false => exact q _ F1 As1 H1 S1 e1 p1 (.bl _)⟩
theorem ev_orV {c : Bool} (h1 : EvD K ta M E M1 (rbl b)) (h2 : b = false → EvD K tb M1 E M1 (rbl c)) : EvD K (tOrV ta tb) M E M1 (rbl (b || c)) := fun B F As σ H S Q q => h1 B F As σ H S _ fun v F1 As1 H1 S1 e1 p1 r1 => ⟨b, R.bl_inv r1, by
  cases b with
  | true => exact q _ F1 As1 H1 S1 e1 p1 (.bl _)
  | false => exact h2 rfl B F1 As1 σ H1 S1 Q fun v F2 As2 H2 S2 e2 p2 r2 => q v F2 As2 H2 S2 (e1.trans e2) (p1.trans p2) r2⟩
theorem ev_notV (h1 : EvD K ta M E M1 (rbl b)) : EvD K (tNotV ta) M E M1 (rbl (!b)) := fun B F As σ H S Q q => h1 B F As σ H S _ fun v F1 As1 H1 S1 e1 p1 r1 => ⟨b, R.bl_inv r1, q _ F1 As1 H1 S1 e1 p1 (.bl _)⟩
theorem ev_if {t : TT} (h : EvT K t M E M1 b) (h1 : b = true → EvD K ta M1 E M2 r) (h2 : b = false → EvD K tb M1 E M2 r) : EvD K (tIf t ta tb) M E M2 r := fun B F As σ H S Q q => h B F As σ H S _ fun F1 As1 H1 S1 e1 p1 => by
  cases b with
  | true => exact h1 rfl B F1 As1 σ H1 S1 Q fun v F2 As2 H2 S2 e2 p2 r2 => q v F2 As2 H2 S2 (e1.trans e2) (p1.trans p2) r2
  | false => exact h2 rfl B F1 As1 σ H1 S1 Q fun v F2 As2 H2 S2 e2 p2 r2 => q v F2 As2 H2 S2 (e1.trans e2) (p1.trans p2) r2
/-- both ways are data and leave the cells -/
theorem ev_ifD {t : TT} {d e : D} (h : EvT K t M E M1 b) (h1 : b = true → EvD K ta M1 E M1 (.dat d)) (h2 : b = false → EvD K tb M1 E M1 (.dat e)) : EvD K (tIf t ta tb) M E M1 (.dat (if b = true then d else e)) :=
  ev_if h (fun hb => by rw [if_pos hb]; exact h1 hb) (fun hb => by rw [if_neg (by rw [hb]; exact Bool.false_ne_true)]; exact h2 hb)
theorem ev_ifI {t : TT} {d e : Int} (h : EvT K t M E M1 b) (h1 : b = true → EvD K ta M1 E M1 (rint d)) (h2 : b = false → EvD K tb M1 E M1 (rint e)) : EvD K (tIf t ta tb) M E M1 (rint (if b = true then d else e)) :=
  ev_if h (fun hb => by rw [if_pos hb]; exact h1 hb) (fun hb => by rw [if_neg (by rw [hb]; exact Bool.false_ne_true)]; exact h2 hb)
def Rv.isNon : Rv → Bool
  | .dat .non => true
  | _ => false
theorem RV.isNon {F : Hp} {As : List Addr} {v : V} (h : RV K F As r v) : decide (v = .non) = r.isNon := by
  cases r with
  | cel k => obtain ⟨a, _, rfl⟩ := h; rfl
  | dat d =>
    have h : R K F d v := h
    cases h <;> rfl
theorem ev_isN (h : EvD K ta M E M1 r) : EvD K (tIsN ta) M E M1 (rbl r.isNon) := fun B F As σ H S Q q => h B F As σ H S _ fun v F1 As1 H1 S1 e1 p1 r1 => q _ F1 As1 H1 S1 e1 p1 (by
  show R K F1 (.bl r.isNon) (.bl (decide (v = .non)))
  rw [r1.isNon]; exact .bl _)
theorem ev_notN (h : EvD K ta M E M1 r) : EvD K (tNotN ta) M E M1 (rbl (!r.isNon)) := fun B F As σ H S Q q => h B F As σ H S _ fun v F1 As1 H1 S1 e1 p1 r1 => q _ F1 As1 H1 S1 e1 p1 (by
  show R K F1 (.bl (!r.isNon)) (.bl (!decide (v = .non)))
  rw [r1.isNon]; exact .bl _)
/-! ### operators -/
/-- an operator that leaves the heap -/
theorem OpD.pure (h : ∀ (B : Base) (F H : Hp) (As : List Addr) (σ : St) (E : List (Option Rv)) (v w : V), Sta K B F As M σ E H → RV K F As x v → RV K F As y w → ∀ Q : VK, (∀ u, RV K F As z u → Q u H) → op v w H Q) : OpD K op M x y M z :=
  fun B F As σ E H v w S r1 r2 Q q => h B F H As σ E v w S r1 r2 Q fun u ru => q u F As H S (Ex.refl F) (List.prefix_refl _) ru
theorem od_I0 {g : Int → Int → V} {i j : Int} {d : D} (h : ∀ F, R K F d (g i j)) : OpD K (rI0 g) M (rint i) (rint j) M (.dat d) :=
  OpD.pure fun B F H As σ E v w S r1 r2 Q q => ⟨i, j, R.int_inv r1, R.int_inv r2, q _ (h F)⟩
theorem od_I {C : Int → Int → Prop} {g : Int → Int → V} {i j : Int} {d : D} (hc : C i j) (h : ∀ F, R K F d (g i j)) : OpD K (rI C g) M (rint i) (rint j) M (.dat d) :=
  OpD.pure fun B F H As σ E v w S r1 r2 Q q => ⟨i, j, R.int_inv r1, R.int_inv r2, hc, q _ (h F)⟩
theorem od_int {g : Int → Int → Int} {i j : Int} : OpD K (rI0 fun i j => .int (g i j)) M (rint i) (rint j) M (rint (g i j)) := od_I0 fun _ => .int _
theorem od_bool {g : Int → Int → Bool} {i j : Int} : OpD K (rI0 fun i j => .bl (g i j)) M (rint i) (rint j) M (rbl (g i j)) := od_I0 fun _ => .bl _
theorem od_intC {C : Int → Int → Prop} {g : Int → Int → Int} {i j : Int} (hc : C i j) : OpD K (rI C fun i j => .int (g i j)) M (rint i) (rint j) M (rint (g i j)) := od_I hc fun _ => .int _
theorem od_eqI {i j : Int} : OpD K rEq M (rint i) (rint j) M (rbl (decide (i = j))) := OpD.pure fun B F H As σ E v w S r1 r2 Q q => by
  cases R.int_inv r1; cases R.int_inv r2
  exact ⟨rfl, q _ (by
    show R K F (.bl (decide (i = j))) (.bl (decide (V.int i = V.int j)))
    rw [show decide (V.int i = V.int j) = decide (i = j) by rw [Bool.eq_iff_iff]; simp]; exact .bl _)⟩
theorem od_neI {i j : Int} : OpD K rNe M (rint i) (rint j) M (rbl (!decide (i = j))) := OpD.pure fun B F H As σ E v w S r1 r2 Q q => by
  cases R.int_inv r1; cases R.int_inv r2
  exact ⟨rfl, q _ (by
    show R K F (.bl (!decide (i = j))) (.bl (!decide (V.int i = V.int j)))
    rw [show decide (V.int i = V.int j) = decide (i = j) by rw [Bool.eq_iff_iff]; simp]; exact .bl _)⟩
theorem od_eqS {i j : Str} : OpD K rEq M (rstr i) (rstr j) M (rbl (decide (i = j))) := OpD.pure fun B F H As σ E v w S r1 r2 Q q => by
  cases R.str_inv r1; cases R.str_inv r2
  exact ⟨rfl, q _ (by
    show R K F (.bl (decide (i = j))) (.bl (decide (V.str i = V.str j)))
    rw [show decide (V.str i = V.str j) = decide (i = j) by rw [Bool.eq_iff_iff]; simp]; exact .bl _)⟩
theorem od_neS {i j : Str} : OpD K rNe M (rstr i) (rstr j) M (rbl (!decide (i = j))) := OpD.pure fun B F H As σ E v w S r1 r2 Q q => by
  cases R.str_inv r1; cases R.str_inv r2
  exact ⟨rfl, q _ (by
    show R K F (.bl (!decide (i = j))) (.bl (!decide (V.str i = V.str j)))
    rw [show decide (V.str i = V.str j) = decide (i = j) by rw [Bool.eq_iff_iff]; simp]; exact .bl _)⟩
theorem od_eqB {i j : Bool} : OpD K rEq M (rbl i) (rbl j) M (rbl (decide (i = j))) := OpD.pure fun B F H As σ E v w S r1 r2 Q q => by
  cases R.bl_inv r1; cases R.bl_inv r2
  exact ⟨rfl, q _ (by
    show R K F (.bl (decide (i = j))) (.bl (decide (V.bl i = V.bl j)))
    rw [show decide (V.bl i = V.bl j) = decide (i = j) by rw [Bool.eq_iff_iff]; simp]; exact .bl _)⟩
theorem ud_neg {i : Int} : UnD K (rU fun i => .int (-i)) M (rint i) M (rint (-i)) := fun B F As σ E H v S r1 Q q => ⟨i, R.int_inv r1, q _ F As H S (Ex.refl F) (List.prefix_refl _) (.int _)⟩
/-! ### places -/
theorem od_ixL {ds : List D} {i : Int} {d : D} (h : IsLst M x ds) (ha : atI ds i = some d) : OpD K (rIxL K) M x (rint i) M (.dat d) := OpD.pure fun B F H As σ E v w S r1 r2 Q q => by
  obtain ⟨a, vs, rfl, h2, h3⟩ := h.view S r1
  cases R.int_inv r2
  unfold atI at ha
  rw [h3.1] at ha
  cases e : ixN vs.length i with
  | none => rw [e] at ha; cases ha
  | some j =>
    rw [e] at ha
    obtain ⟨u, hu, ru⟩ := h3.get (show ds[j]? = some d from ha)
    exact ⟨a, vs, i, u, rfl, rfl, SqL.of h2, by unfold atI; rw [e]; exact hu, q u ru⟩
theorem od_ixT {ds : List D} {i : Int} {d : D} (ha : atI ds i = some d) : OpD K (rIxT K) M (.dat (.tup ds)) (rint i) M (.dat d) := OpD.pure fun B F H As σ E v w S r1 r2 Q q => by
  obtain ⟨a, vs, rfl, h2, h3⟩ := R.tup_inv r1
  cases R.int_inv r2
  unfold atI at ha
  rw [h3.1] at ha
  cases e : ixN vs.length i with
  | none => rw [e] at ha; cases ha
  | some j =>
    rw [e] at ha
    obtain ⟨u, hu, ru⟩ := h3.get (show ds[j]? = some d from ha)
    exact ⟨a, vs, i, u, rfl, rfl, SqT.of (S.ex _ _ h2), by unfold atI; rw [e]; exact hu, q u ru⟩
theorem atI_of {α : Type} {xs : List α} {i : Int} {x : α} (h0 : 0 ≤ i) (h : xs[i.toNat]? = some x) : atI xs i = some x := by
  have := (List.getElem?_eq_some_iff.mp h).1
  unfold atI ixN
  rw [if_pos h0, if_pos (by omega)]
  exact h
/-- the number at a place -/
def gI (ns : List Int) (i : Int) : Int := ns.getD i.toNat 0
theorem gI_at {ns : List Int} {i : Int} (h0 : 0 ≤ i) (h1 : i < ns.length) : atI (ns.map D.int) i = some (.int (gI ns i)) := by
  refine atI_of h0 ?_
  have h : i.toNat < ns.length := by omega
  rw [List.getElem?_map, List.getElem?_eq_getElem h]
  show some (D.int _) = some (D.int (ns.getD i.toNat 0))
  rw [List.getD_eq_getElem?_getD, List.getElem?_eq_getElem h]; rfl
theorem od_ixI {ns : List Int} {i : Int} (h : IsLst M x (ns.map D.int)) (h0 : 0 ≤ i) (h1 : i < ns.length) : OpD K (rIxL K) M x (rint i) M (rint (gI ns i)) := od_ixL h (gI_at h0 h1)
theorem od_ixScr {ns : List Int} {i : Int} (h0 : 0 ≤ i) (h1 : i < ns.length) : OpD K (rIxL K) M (.dat (.scr ns)) (rint i) M (rint (gI ns i)) := OpD.pure fun B F H As σ E v w S r1 r2 Q q => by
  obtain ⟨a, rfl, h2⟩ := R.scr_inv r1
  cases R.int_inv r2
  refine ⟨a, _, i, .int (gI ns i), rfl, rfl, Evl.ex_l S.ex h2, atI_of h0 ?_, q _ (.int _)⟩
  have h : i.toNat < ns.length := by omega
  rw [List.getElem?_map, List.getElem?_eq_getElem h]
  show some (V.int _) = some (V.int (ns.getD i.toNat 0))
  rw [List.getD_eq_getElem?_getD, List.getElem?_eq_getElem h]; rfl
/-! ### lists made of lists -/
theorem ev_lstNew {B : Base} {F H : Hp} {As : List Addr} {σ : St} {ds : List D} {vs : List V} {p : Addr} (S : Sta K B F As M σ E H) (hp : H p = none) (h : P2 (R K F) ds vs) {Q : VK} (q : ∀ u F' As' H', Sta K B F' As' M σ E H' → Ex F F' → As <+: As' → RV K F' As' (.dat (.lst ds)) u → Q u H') : Q (.ref p) (upd H p (.lst vs)) := by
  obtain ⟨S2, e2⟩ := S.newF (o := .lst vs) hp
  exact q _ _ As _ S2 e2 (List.prefix_refl _) (R.lst' upd_same (h.imp fun _ _ z => z.mono e2))
theorem od_cat {ds es : List D} (h1 : IsLst M x ds) (h2 : IsLst M y es) (hl : ds.length + es.length ≤ 16777216) : OpD K rCat M x y M (.dat (.lst (ds ++ es))) := fun B F As σ E H v w S r1 r2 Q q => by
  obtain ⟨a, vs, rfl, ha, pa⟩ := h1.view S r1
  obtain ⟨c, ws, rfl, hc, pc⟩ := h2.view S r2
  exact ⟨a, c, vs, ws, rfl, rfl, ha, hc, sz (by rw [← pa.1, ← pc.1]; exact hl), fun p hp => ev_lstNew S hp (pa.append pc) q⟩
def repD (ds : List D) (n : Nat) : List D := (List.replicate n ds).flatten
theorem P2.rep {F : Hp} {ds : List D} {vs : List V} (h : P2 (R K F) ds vs) : ∀ n : Nat, P2 (R K F) (List.replicate n ds).flatten (List.replicate n vs).flatten
  | 0 => P2.nil
  | n + 1 => by
    rw [List.replicate_succ, List.flatten_cons, List.replicate_succ, List.flatten_cons]
    exact h.append (P2.rep h n)
end
end DL
set_option Elab.async false
set_option linter.all false
set_option maxRecDepth 100000
set_option maxHeartbeats 2000000
/-! DL, third part: built-ins, slices, dicts, comprehensions. -/
namespace DL
open PySem L2
open Evl (Ex)
section
variable {K : PySem.W.Frag} {M M0 M1 M2 M3 M' : List MC} {E : List (Option Rv)} {ta tb te tx : TE} {x y z r : Rv} {op : R2} {xs rs : List Rv} {b : Bool}
theorem od_rep {ds : List D} {k : Int} (h1 : IsLst M x ds) (hk : -(2 ^ 63) ≤ k ∧ k < 2 ^ 63) (hl : ds.length * k.toNat ≤ 16777216) : OpD K rRep M x (rint k) M (.dat (.lst (List.replicate k.toNat ds).flatten)) := fun B F As σ E H v w S r1 r2 Q q => by
  obtain ⟨a, vs, rfl, ha, pa⟩ := h1.view S r1
  exact ⟨a, k, vs, rfl, R.int_inv r2, ha, hk.1, hk.2, sz (by rw [← pa.1]; exact hl), fun p hp => ev_lstNew S hp (pa.rep _) q⟩
theorem flat_rep {α : Type} (x : α) : ∀ n : Nat, (List.replicate n [x]).flatten = List.replicate n x
  | 0 => rfl
  | n + 1 => by rw [List.replicate_succ, List.flatten_cons, flat_rep x n]; rfl
/-! ### built-ins by values -/
theorem CaD.pure {f : List V → Hp → VK → Prop} (h : ∀ (B : Base) (F H : Hp) (As : List Addr) (σ : St) (E : List (Option Rv)) (vs : List V), Sta K B F As M σ E H → P2 (RV K F As) xs vs → ∀ Q : VK, (∀ u, RV K F As z u → Q u H) → f vs H Q) : CaD K f M xs M z :=
  fun B F As σ E H v S r1 Q q => h B F H As σ E v S r1 Q fun u ru => q u F As H S (Ex.refl F) (List.prefix_refl _) ru
theorem P2.one {F : Hp} {As : List Addr} {vs : List V} (h : P2 (RV K F As) [x] vs) : ∃ v, vs = [v] ∧ RV K F As x v := by
  obtain ⟨v, ws, rfl, hv, h2⟩ := h.inv_cons
  rw [h2.inv_nil]
  exact ⟨v, rfl, hv⟩
theorem P2.two {F : Hp} {As : List Addr} {vs : List V} (h : P2 (RV K F As) [x, y] vs) : ∃ v w, vs = [v, w] ∧ RV K F As x v ∧ RV K F As y w := by
  obtain ⟨v, ws, rfl, hv, h2⟩ := h.inv_cons
  obtain ⟨w, rfl, hw⟩ := h2.one
  exact ⟨v, w, rfl, hv, hw⟩
theorem cd_len {ds : List D} (h : IsLst M x ds) : CaD K (fun xs H Q => ∃ p ys, xs = [V.ref p] ∧ (SqL K H p ys ∨ SqT K H p ys) ∧ Q (V.int (ys.length : Nat)) H) M [x] M (rint ds.length) := CaD.pure fun B F H As σ E vs S r1 Q q => by
  obtain ⟨v, rfl, hv⟩ := r1.one
  obtain ⟨a, ws, rfl, ha, pa⟩ := h.view S hv
  exact ⟨a, ws, rfl, .inl (SqL.of ha), q _ (by rw [← pa.1]; exact .int _)⟩
theorem cd_lenI {ns : List Int} (h : IsLst M x (ns.map D.int)) : CaD K (fun xs H Q => ∃ p ys, xs = [V.ref p] ∧ (SqL K H p ys ∨ SqT K H p ys) ∧ Q (V.int (ys.length : Nat)) H) M [x] M (rint ns.length) := by
  have := cd_len (K := K) h
  rwa [List.length_map] at this
theorem cd_lenT {ds : List D} : CaD K (fun xs H Q => ∃ p ys, xs = [V.ref p] ∧ (SqL K H p ys ∨ SqT K H p ys) ∧ Q (V.int (ys.length : Nat)) H) M [.dat (.tup ds)] M (rint ds.length) := CaD.pure fun B F H As σ E vs S r1 Q q => by
  obtain ⟨v, rfl, hv⟩ := r1.one
  obtain ⟨a, ws, rfl, ha, pa⟩ := R.tup_inv hv
  exact ⟨a, ws, rfl, .inr (SqT.of (S.ex _ _ ha)), q _ (by rw [← pa.1]; exact .int _)⟩
theorem cd_lenScr {ns : List Int} : CaD K (fun xs H Q => ∃ p ys, xs = [V.ref p] ∧ (SqL K H p ys ∨ SqT K H p ys) ∧ Q (V.int (ys.length : Nat)) H) M [.dat (.scr ns)] M (rint ns.length) := CaD.pure fun B F H As σ E vs S r1 Q q => by
  obtain ⟨v, rfl, hv⟩ := r1.one
  obtain ⟨a, rfl, ha⟩ := R.scr_inv hv
  exact ⟨a, _, rfl, .inl (Evl.ex_l S.ex ha), q _ (by rw [List.length_map]; exact .int _)⟩
theorem cd_lenD {kvs : List (Key × D)} (h : IsDct M x kvs) : CaD K (fun xs H Q => ∃ a kvs, xs = [V.ref a] ∧ H a = some (HO.dK kvs) ∧ Q (V.int (kvs.length : Nat)) H) M [x] M (rint kvs.length) := CaD.pure fun B F H As σ E vs S r1 Q q => by
  obtain ⟨v, rfl, hv⟩ := r1.one
  obtain ⟨a, ws, rfl, ha, pa⟩ := h.view S hv
  exact ⟨a, ws, rfl, ha, q _ (by rw [← pa.1]; exact .int _)⟩
theorem cd_abs {i : Int} : CaD K (fun xs H Q => ∃ i, xs = [V.int i] ∧ Q (V.int (if i < 0 then -i else i)) H) M [rint i] M (rint (if i < 0 then -i else i)) := CaD.pure fun B F H As σ E vs S r1 Q q => by
  obtain ⟨v, rfl, hv⟩ := r1.one
  cases R.int_inv hv
  exact ⟨i, rfl, q _ (.int _)⟩
theorem cd_max2 {i j : Int} : CaD K (fun xs H Q => ∃ i j, xs = [V.int i, V.int j] ∧ Q (V.int (if j > i then j else i)) H) M [rint i, rint j] M (rint (if j > i then j else i)) := CaD.pure fun B F H As σ E vs S r1 Q q => by
  obtain ⟨v, w, rfl, hv, hw⟩ := r1.two
  cases R.int_inv hv; cases R.int_inv hw
  exact ⟨i, j, rfl, q _ (.int _)⟩
theorem cd_min2 {i j : Int} : CaD K (fun xs H Q => ∃ i j, xs = [V.int i, V.int j] ∧ Q (V.int (if j < i then j else i)) H) M [rint i, rint j] M (rint (if j < i then j else i)) := CaD.pure fun B F H As σ E vs S r1 Q q => by
  obtain ⟨v, w, rfl, hv, hw⟩ := r1.two
  cases R.int_inv hv; cases R.int_inv hw
  exact ⟨i, j, rfl, q _ (.int _)⟩
theorem cd_int {i : Int} : CaD K (fun xs H Q => (∃ i, xs = [V.int i] ∧ Q (V.int i) H) ∨ ∃ k, xs = [V.bl k] ∧ Q (V.int (if k = true then 1 else 0)) H) M [rint i] M (rint i) := CaD.pure fun B F H As σ E vs S r1 Q q => by
  obtain ⟨v, rfl, hv⟩ := r1.one
  cases R.int_inv hv
  exact .inl ⟨i, rfl, q _ (.int _)⟩
theorem cd_intB {i : Bool} : CaD K (fun xs H Q => (∃ i, xs = [V.int i] ∧ Q (V.int i) H) ∨ ∃ k, xs = [V.bl k] ∧ Q (V.int (if k = true then 1 else 0)) H) M [rbl i] M (rint (if i = true then 1 else 0)) := CaD.pure fun B F H As σ E vs S r1 Q q => by
  obtain ⟨v, rfl, hv⟩ := r1.one
  cases R.bl_inv hv
  exact .inr ⟨i, rfl, q _ (.int _)⟩
theorem cd_sum {ns : List Int} (h : IsLst M x (ns.map D.int)) : CaD K (rSum K) M [x] M (rint ns.sum) := CaD.pure fun B F H As σ E vs S r1 Q q => by
  obtain ⟨v, rfl, hv⟩ := r1.one
  obtain ⟨a, ws, rfl, ha, pa⟩ := h.view S hv
  exact ⟨a, ns, rfl, SqL.of (by rw [← pa.ints]; exact ha), q _ (.int _)⟩
/-- the greatest, the least of a list -/
def mxI : List Int → Int
  | [] => 0
  | n :: ns => ns.foldl (fun m k => if k > m then k else m) n
def mnI : List Int → Int
  | [] => 0
  | n :: ns => ns.foldl (fun m k => if k < m then k else m) n
theorem mx_fold : ∀ (ns : List Int) (n : Int), (ns.foldl (fun m k => if k > m then k else m) n = n ∨ ns.foldl (fun m k => if k > m then k else m) n ∈ ns) ∧ n ≤ ns.foldl (fun m k => if k > m then k else m) n ∧ ∀ k ∈ ns, k ≤ ns.foldl (fun m k => if k > m then k else m) n
  | [], n => ⟨.inl rfl, Int.le_refl _, fun k h => by cases h⟩
  | a :: ns, n => by
    rw [List.foldl_cons]
    by_cases c : a > n
    · rw [if_pos c]
      obtain ⟨h1, h2, h3⟩ := mx_fold ns a
      refine ⟨?_, by omega, fun k hk => ?_⟩
      · rcases h1 with h1 | h1
        · rw [h1]; exact .inr List.mem_cons_self
        · exact .inr (List.mem_cons_of_mem _ h1)
      · rcases List.mem_cons.mp hk with rfl | hk
        · exact h2
        · exact h3 k hk
    · rw [if_neg c]
      obtain ⟨h1, h2, h3⟩ := mx_fold ns n
      refine ⟨?_, h2, fun k hk => ?_⟩
      · rcases h1 with h1 | h1
        · exact .inl h1
        · exact .inr (List.mem_cons_of_mem _ h1)
      · rcases List.mem_cons.mp hk with rfl | hk
        · omega
        · exact h3 k hk
theorem mn_fold : ∀ (ns : List Int) (n : Int), (ns.foldl (fun m k => if k < m then k else m) n = n ∨ ns.foldl (fun m k => if k < m then k else m) n ∈ ns) ∧ ns.foldl (fun m k => if k < m then k else m) n ≤ n ∧ ∀ k ∈ ns, ns.foldl (fun m k => if k < m then k else m) n ≤ k
  | [], n => ⟨.inl rfl, Int.le_refl _, fun k h => by cases h⟩
  | a :: ns, n => by
    rw [List.foldl_cons]
    by_cases c : a < n
    · rw [if_pos c]
      obtain ⟨h1, h2, h3⟩ := mn_fold ns a
      refine ⟨?_, by omega, fun k hk => ?_⟩
      · rcases h1 with h1 | h1
        · rw [h1]; exact .inr List.mem_cons_self
        · exact .inr (List.mem_cons_of_mem _ h1)
      · rcases List.mem_cons.mp hk with rfl | hk
        · exact h2
        · exact h3 k hk
    · rw [if_neg c]
      obtain ⟨h1, h2, h3⟩ := mn_fold ns n
      refine ⟨?_, h2, fun k hk => ?_⟩
      · rcases h1 with h1 | h1
        · exact .inl h1
        · exact .inr (List.mem_cons_of_mem _ h1)
      · rcases List.mem_cons.mp hk with rfl | hk
        · omega
        · exact h3 k hk
theorem mxI_mem {ns : List Int} (h : ns ≠ []) : mxI ns ∈ ns := by
  cases ns with
  | nil => exact absurd rfl h
  | cons n ns =>
    rcases (mx_fold ns n).1 with e | e
    · show ns.foldl _ n ∈ n :: ns
      rw [e]; exact List.mem_cons_self
    · exact List.mem_cons_of_mem _ e
theorem mxI_ge {ns : List Int} {k : Int} (h : k ∈ ns) : k ≤ mxI ns := by
  cases ns with
  | nil => cases h
  | cons n ns =>
    rcases List.mem_cons.mp h with rfl | h
    · exact (mx_fold ns k).2.1
    · exact (mx_fold ns n).2.2 k h
theorem mnI_mem {ns : List Int} (h : ns ≠ []) : mnI ns ∈ ns := by
  cases ns with
  | nil => exact absurd rfl h
  | cons n ns =>
    rcases (mn_fold ns n).1 with e | e
    · show ns.foldl _ n ∈ n :: ns
      rw [e]; exact List.mem_cons_self
    · exact List.mem_cons_of_mem _ e
theorem mnI_le {ns : List Int} {k : Int} (h : k ∈ ns) : mnI ns ≤ k := by
  cases ns with
  | nil => cases h
  | cons n ns =>
    rcases List.mem_cons.mp h with rfl | h
    · exact (mn_fold ns k).2.1
    · exact (mn_fold ns n).2.2 k h
theorem cd_max {ns : List Int} (h : IsLst M x (ns.map D.int)) (h0 : 0 < ns.length) : CaD K (rMax K) M [x] M (rint (mxI ns)) := CaD.pure fun B F H As σ E vs S r1 Q q => by
  obtain ⟨v, rfl, hv⟩ := r1.one
  obtain ⟨a, ws, rfl, ha, pa⟩ := h.view S hv
  refine ⟨a, ns, rfl, SqL.of (by rw [← pa.ints]; exact ha), h0, fun m hm hle => q _ ?_⟩
  have e : m = mxI ns := Int.le_antisymm (mxI_ge hm) (hle _ (mxI_mem (by rintro rfl; exact absurd h0 (by decide))))
  rw [e]; exact .int _
theorem cd_min {ns : List Int} (h : IsLst M x (ns.map D.int)) (h0 : 0 < ns.length) : CaD K (rMin K) M [x] M (rint (mnI ns)) := CaD.pure fun B F H As σ E vs S r1 Q q => by
  obtain ⟨v, rfl, hv⟩ := r1.one
  obtain ⟨a, ws, rfl, ha, pa⟩ := h.view S hv
  refine ⟨a, ns, rfl, SqL.of (by rw [← pa.ints]; exact ha), h0, fun m hm hle => q _ ?_⟩
  have e : m = mnI ns := Int.le_antisymm (hle _ (mnI_mem (by rintro rfl; exact absurd h0 (by decide)))) (mnI_le hm)
  rw [e]; exact .int _
/-- sorted, upward -/
def sortI (ns : List Int) : List Int := ns.mergeSort fun a b => decide (a ≤ b)
theorem sortI_perm (ns : List Int) : (sortI ns).Perm ns := List.mergeSort_perm _ _
theorem sortI_pair (ns : List Int) : (sortI ns).Pairwise (· ≤ ·) := by
  have h := List.pairwise_mergeSort (le := fun (a b : Int) => decide (a ≤ b)) (fun a b c h1 h2 => by simp at *; omega) (fun a b => by simp; omega) ns
  exact h.imp fun h => by simpa using h
theorem sortI_unique {ms ns : List Int} (h : ms.Perm ns) (p : ms.Pairwise (· ≤ ·)) : ms = sortI ns := (h.trans (sortI_perm ns).symm).eq_of_pairwise (fun x y _ _ h1 h2 => Int.le_antisymm h1 h2) p (sortI_pair ns)
theorem sortI_length (ns : List Int) : (sortI ns).length = ns.length := (sortI_perm ns).length_eq
theorem mem_sortI {n : Int} {ns : List Int} : n ∈ sortI ns ↔ n ∈ ns := (sortI_perm ns).mem_iff
theorem cd_sorted {ns : List Int} (h : IsLst M x (ns.map D.int)) : CaD K (rSortedI K) M [x] M (rints (sortI ns)) := fun B F As σ E H vs S r1 Q q => by
  obtain ⟨v, rfl, hv⟩ := r1.one
  obtain ⟨a, ws, rfl, ha, pa⟩ := h.view S hv
  refine ⟨a, ns, rfl, SqL.of (by rw [← pa.ints]; exact ha), fun ns' p hp hs hn => ?_⟩
  rw [sortI_unique hp hs]
  exact ev_lstNew S hn (P2.ofInts _) q
theorem cd_list {ds : List D} (h : IsLst M x ds) : CaD K (fun xs H Q => ∃ p ys, xs = [V.ref p] ∧ (SqL K H p ys ∨ SqT K H p ys) ∧ ∀ (l : Addr), H l = none → Q (V.ref l) (upd H l (HO.lst ys))) M [x] M (.dat (.lst ds)) := fun B F As σ E H vs S r1 Q q => by
  obtain ⟨v, rfl, hv⟩ := r1.one
  obtain ⟨a, ws, rfl, ha, pa⟩ := h.view S hv
  exact ⟨a, ws, rfl, .inl (SqL.of ha), fun p hp => ev_lstNew S hp pa q⟩
theorem cd_listT {ds : List D} : CaD K (fun xs H Q => ∃ p ys, xs = [V.ref p] ∧ (SqL K H p ys ∨ SqT K H p ys) ∧ ∀ (l : Addr), H l = none → Q (V.ref l) (upd H l (HO.lst ys))) M [.dat (.tup ds)] M (.dat (.lst ds)) := fun B F As σ E H vs S r1 Q q => by
  obtain ⟨v, rfl, hv⟩ := r1.one
  obtain ⟨a, ws, rfl, ha, pa⟩ := R.tup_inv hv
  exact ⟨a, ws, rfl, .inr (SqT.of (S.ex _ _ ha)), fun p hp => ev_lstNew S hp pa q⟩
/-- list(xs), to be changed -/
theorem cd_listM {ds : List D} (h : IsLst M x ds) : CaD K (fun xs H Q => ∃ p ys, xs = [V.ref p] ∧ (SqL K H p ys ∨ SqT K H p ys) ∧ ∀ (l : Addr), H l = none → Q (V.ref l) (upd H l (HO.lst ys))) M [x] (M ++ [.lst ds]) (.cel M.length) := fun B F As σ E H vs S r1 Q q => by
  obtain ⟨v, rfl, hv⟩ := r1.one
  obtain ⟨a, ws, rfl, ha, pa⟩ := h.view S hv
  refine ⟨a, ws, rfl, .inl (SqL.of ha), fun p hp => ?_⟩
  have S2 := S.newM (o := .lst ws) (mc := .lst ds) hp ⟨ws, rfl, pa⟩
  exact q _ _ _ _ S2 (Ex.refl F) (List.prefix_append _ _) ⟨p, by rw [List.getElem?_append_right (by rw [S.len]; exact Nat.le_refl _), S.len]; simp, rfl⟩
theorem cd_tuple {ds : List D} (h : IsLst M x ds) : CaD K (fun xs H Q => ∃ p ys, xs = [V.ref p] ∧ ((SqL K H p ys ∧ ∀ (l : Addr), H l = none → Q (V.ref l) (upd H l (HO.tup ys))) ∨ SqT K H p ys ∧ Q (V.ref p) H)) M [x] M (.dat (.tup ds)) := fun B F As σ E H vs S r1 Q q => by
  obtain ⟨v, rfl, hv⟩ := r1.one
  obtain ⟨a, ws, rfl, ha, pa⟩ := h.view S hv
  refine ⟨a, ws, rfl, .inl ⟨SqL.of ha, fun p hp => ?_⟩⟩
  obtain ⟨S2, e2⟩ := S.newF (o := .tup ws) hp
  exact q _ _ As _ S2 e2 (List.prefix_refl _) (R.tup' upd_same (pa.imp fun _ _ z => z.mono e2))
theorem cd_all {bs : List Bool} (h : IsLst M x (bs.map D.bl)) : CaD K (rAll K) M [x] M (rbl (bs.all id)) := CaD.pure fun B F H As σ E vs S r1 Q q => by
  obtain ⟨v, rfl, hv⟩ := r1.one
  obtain ⟨a, ws, rfl, ha, pa⟩ := h.view S hv
  exact ⟨a, bs, rfl, SqL.of (by rw [← pa.bls]; exact ha), q _ (.bl _)⟩
theorem cd_any {bs : List Bool} (h : IsLst M x (bs.map D.bl)) : CaD K (rAny K) M [x] M (rbl (bs.any id)) := CaD.pure fun B F H As σ E vs S r1 Q q => by
  obtain ⟨v, rfl, hv⟩ := r1.one
  obtain ⟨a, ws, rfl, ha, pa⟩ := h.view S hv
  exact ⟨a, bs, rfl, SqL.of (by rw [← pa.bls]; exact ha), q _ (.bl _)⟩
/-! ### isinstance -/
def D.ty : D → Option String
  | .non => some "NoneType" | .bl _ => some "bool" | .int _ => some "int" | .str _ => some "str" | .lst _ => some "list" | .tup _ => some "tuple" | .dct _ => some "dict" | _ => none
theorem R.ty {F H : Hp} {d : D} {v : V} {t : String} (h : R K F d v) (e : Ex F H) (ht : d.ty = some t) : TyX K H v (.type t) := by
  cases h with
  | non => cases ht; exact .base .non
  | bl b => cases ht; exact .base (.bl b)
  | int i => cases ht; exact .base (.int i)
  | str s => cases ht; exact .base (.str s)
  | lst h _ _ => cases ht; exact .base (.lst (e _ _ h))
  | tup h _ _ => cases ht; exact .base (.tup (e _ _ h))
  | dct h _ _ => cases ht; exact .base (.dK (e _ _ h))
  | ins h _ _ => cases ht
  | err _ _ _ => cases ht
  | scr h => cases ht
/-- isinstance(e, T), T a built-in class by its name -/
theorem ev_isi {d : D} {t u : String} {b : Bool} (ha : EvD K ta M E M1 (.dat d)) (ht : d.ty = some t) (hb : kitB t u = some b) : EvD K (tCB (rIsi K) (tCons ta (tCons (tC (.ty u)) tNil))) M E M1 (rbl b) := fun B F As σ H S Q q =>
  ha B F As σ H S _ fun v F1 As1 H1 S1 e1 p1 r1 => ⟨v, .ty u, .type t, .type u, b, rfl, .ty u, R.ty r1 S1.ex ht, kit_ty hb, q _ F1 As1 H1 S1 e1 p1 (.bl b)⟩
/-! ### slices -/
theorem eo_none : EvO K tNoPart M E M none := fun B F As σ H S Q q => q F As H S (Ex.refl F) (List.prefix_refl _)
theorem eo_some {i : Int} (h : EvD K te M E M1 (rint i)) : EvO K (tPart te) M E M1 (some i) := fun B F As σ H S Q q => h B F As σ H S _ fun v F1 As1 H1 S1 e1 p1 r1 => ⟨i, R.int_inv r1, q F1 As1 H1 S1 e1 p1⟩
/-- xs[lo:hi] as data -/
def cutD {α : Type} (xs : List α) (lo hi : Option Int) : List α := (xs.drop (HT.sIx xs.length 0 lo)).take (HT.sIx xs.length xs.length hi - HT.sIx xs.length 0 lo)
theorem P2.cut {F : Hp} {ds : List D} {vs : List V} (h : P2 (R K F) ds vs) (lo hi : Option Int) : P2 (R K F) (cutD ds lo hi) (cutV vs lo hi) := by
  unfold cutD cutV
  rw [h.1]
  exact (h.drop _).take _
theorem cutD_map {α β : Type} (f : α → β) (xs : List α) (lo hi : Option Int) : cutD (xs.map f) lo hi = (cutD xs lo hi).map f := by
  unfold cutD
  rw [List.length_map, List.map_take, List.map_drop]
theorem ev_slice {tl th : TO} {ds : List D} {lo hi : Option Int} (ha : EvD K ta M E M1 x) (hl : EvO K tl M1 E M2 lo) (hh : EvO K th M2 E M3 hi) (h : IsLst M3 x ds) : EvD K (tSl (rSlL K) ta tl th) M E M3 (.dat (.lst (cutD ds lo hi))) := fun B F As σ H S Q q =>
  ha B F As σ H S _ fun v F1 As1 H1 S1 e1 p1 r1 => hl B F1 As1 σ H1 S1 _ fun F2 As2 H2 S2 e2 p2 => hh B F2 As2 σ H2 S2 _ fun F3 As3 H3 S3 e3 p3 => by
    obtain ⟨a, vs, rfl, ha, pa⟩ := h.view S3 (r1.m (e2.trans e3) (p2.trans p3))
    exact ⟨a, vs, rfl, SqL.of ha, fun p hp => ev_lstNew S3 hp (pa.cut lo hi) fun u F4 As4 H4 S4 e4 p4 r4 => q u F4 As4 H4 S4 ((e1.trans (e2.trans e3)).trans e4) ((p1.trans (p2.trans p3)).trans p4) r4⟩
theorem ev_sliceI {tl th : TO} {ns : List Int} {lo hi : Option Int} (ha : EvD K ta M E M1 x) (hl : EvO K tl M1 E M2 lo) (hh : EvO K th M2 E M3 hi) (h : IsLst M3 x (ns.map D.int)) : EvD K (tSl (rSlL K) ta tl th) M E M3 (rints (cutD ns lo hi)) := by
  have := ev_slice ha hl hh h
  rwa [cutD_map] at this
theorem ev_sliceScr {tl th : TO} {ns : List Int} {lo hi : Option Int} (ha : EvD K ta M E M1 (.dat (.scr ns))) (hl : EvO K tl M1 E M2 lo) (hh : EvO K th M2 E M3 hi) : EvD K (tSl (rSlL K) ta tl th) M E M3 (rints (cutD ns lo hi)) := fun B F As σ H S Q q =>
  ha B F As σ H S _ fun v F1 As1 H1 S1 e1 p1 r1 => hl B F1 As1 σ H1 S1 _ fun F2 As2 H2 S2 e2 p2 => hh B F2 As2 σ H2 S2 _ fun F3 As3 H3 S3 e3 p3 => by
    obtain ⟨a, rfl, ha⟩ := R.scr_inv r1
    refine ⟨a, _, rfl, Evl.ex_l S3.ex (Evl.ex_l (e2.trans e3) ha), fun p hp => ?_⟩
    have e : cutV (ns.map V.int) lo hi = (cutD ns lo hi).map V.int := by
      unfold cutV cutD
      rw [List.length_map, List.map_take, List.map_drop]
    rw [e]
    exact ev_lstNew S3 hp (P2.ofInts _) fun u F4 As4 H4 S4 e4 p4 r4 => q u F4 As4 H4 S4 ((e1.trans (e2.trans e3)).trans e4) ((p1.trans (p2.trans p3)).trans p4) r4
theorem ev_revL {ds : List D} (ha : EvD K ta M E M1 x) (h : IsLst M1 x ds) : EvD K (tRevL K ta) M E M1 (.dat (.lst ds.reverse)) := fun B F As σ H S Q q =>
  ha B F As σ H S _ fun v F1 As1 H1 S1 e1 p1 r1 => by
    obtain ⟨a, vs, rfl, ha, pa⟩ := h.view S1 r1
    exact ⟨a, vs, rfl, SqL.of ha, fun p hp => ev_lstNew S1 hp pa.reverse fun u F4 As4 H4 S4 e4 p4 r4 => q u F4 As4 H4 S4 (e1.trans e4) (p1.trans p4) r4⟩
/-! ### dicts -/
def valG {κ α : Type} [DecidableEq κ] (kvs : List (κ × α)) (k : κ) : Option α := (kvs.find? fun kv => decide (kv.1 = k)).map (·.2)
def putG {κ α : Type} [DecidableEq κ] (kvs : List (κ × α)) (k : κ) (v : α) : List (κ × α) :=
  if (kvs.any fun kv => decide (kv.1 = k)) = true then kvs.map (fun kv => if kv.1 = k then (kv.1, v) else kv) else kvs ++ [(k, v)]
theorem PK.val {α : Type} [DecidableEq α] {Rr : D → V → Prop} : ∀ {kvs : List (α × D)} {ws : List (α × V)} (k : α), PK Rr kvs ws → (valG kvs k = none ∧ valV ws k = none) ∨ ∃ d v, valG kvs k = some d ∧ valV ws k = some v ∧ Rr d v
  | [], ws, k, h => by rw [P2.inv_nil h]; exact .inl ⟨rfl, rfl⟩
  | p :: kvs, ws, k, h => by
    obtain ⟨q, zs, rfl, ⟨h1, h2⟩, h3⟩ := P2.inv_cons h
    by_cases e : p.1 = k
    · refine .inr ⟨p.2, q.2, ?_, ?_, h2⟩
      · unfold valG; rw [List.find?_cons_of_pos (by simpa using e)]; rfl
      · unfold valV; rw [List.find?_cons_of_pos (by simpa using h1.symm.trans e)]; rfl
    · have e2 : ¬ q.1 = k := fun z => e (h1.trans z)
      have g1 : valG (p :: kvs) k = valG kvs k := by unfold valG; rw [List.find?_cons_of_neg (by simpa using e)]
      have g2 : valV (q :: zs) k = valV zs k := valV_neg e2
      rw [g1, g2]
      exact PK.val k h3
theorem PK.put {α : Type} [DecidableEq α] {Rr : D → V → Prop} {kvs : List (α × D)} {ws : List (α × V)} {k : α} {d : D} {v : V} (h : PK Rr kvs ws) (r : Rr d v) : PK Rr (putG kvs k d) (putK ws k v) := by
  have e : (kvs.any fun kv => decide (kv.1 = k)) = ws.any fun kv => decide (kv.1 = k) := by
    have := h.keys
    have a1 : (kvs.any fun kv => decide (kv.1 = k)) = (kvs.map (·.1)).any fun y => decide (y = k) := by rw [List.any_map]; rfl
    have a2 : (ws.any fun kv => decide (kv.1 = k)) = (ws.map (·.1)).any fun y => decide (y = k) := by rw [List.any_map]; rfl
    rw [a1, a2, this]
  unfold putG putK
  rw [e]
  split
  · refine ⟨by rw [List.length_map, List.length_map]; exact h.1, fun i p q e1 e2 => ?_⟩
    rw [List.getElem?_map] at e1 e2
    cases c1 : kvs[i]? with
    | none => rw [c1] at e1; cases e1
    | some p0 =>
      cases c2 : ws[i]? with
      | none => rw [c2] at e2; cases e2
      | some q0 =>
        rw [c1] at e1; rw [c2] at e2
        obtain ⟨h1, h2⟩ := h.2 i p0 q0 c1 c2
        cases e1; cases e2
        show (if p0.1 = k then (p0.1, d) else p0).1 = (if q0.1 = k then (q0.1, v) else q0).1 ∧ Rr (if p0.1 = k then (p0.1, d) else p0).2 (if q0.1 = k then (q0.1, v) else q0).2
        rw [h1]
        by_cases c : q0.1 = k
        · rw [if_pos c, if_pos c]; exact ⟨rfl, r⟩
        · rw [if_neg c, if_neg c]; exact ⟨h1, h2⟩
  · exact P2.append h (P2.single ⟨rfl, r⟩)
def D.key : D → Option Key
  | .int i => some (.inl i)
  | .str s => some (.inr s)
  | _ => none
theorem R.key {F : Hp} {d : D} {v : V} {k : Key} (h : R K F d v) (e : d.key = some k) : v = kV k := by
  cases h with
  | int i => cases e; rfl
  | str s => cases e; rfl
  | _ => cases e
theorem ev_dget {d k : D} {kk : Key} {kvs : List (Key × D)} (ha : EvD K ta M E M1 x) (hb : EvD K tb M1 E M2 (.dat k)) (hk : k.key = some kk) (hd : IsDct M2 x kvs) (hv : valG kvs kk = some d) : EvD K (tDGet ta tb) M E M2 (.dat d) := fun B F As σ H S Q q =>
  ha B F As σ H S _ fun v F1 As1 H1 S1 e1 p1 r1 => hb B F1 As1 σ H1 S1 _ fun w F2 As2 H2 S2 e2 p2 r2 => by
    obtain ⟨a, ws, rfl, hA, pa⟩ := hd.view S2 (r1.m e2 p2)
    have ew := R.key r2 hk
    rcases pa.val kk with ⟨h1, _⟩ | ⟨d', v', h1, h2, h3⟩
    · rw [h1] at hv; cases hv
    · rw [h1] at hv; cases hv
      exact ⟨a, v', rfl, ew ▸ (h2 ▸ DGet.k hA), q v' F2 As2 H2 S2 (e1.trans e2) (p1.trans p2) h3⟩
theorem ev_din {k : D} {kk : Key} {kvs : List (Key × D)} (hb : EvD K tb M E M1 (.dat k)) (ha : EvD K ta M1 E M2 x) (hk : k.key = some kk) (hd : IsDct M2 x kvs) : EvD K (tDIn tb ta) M E M2 (rbl (valG kvs kk).isSome) := fun B F As σ H S Q q =>
  hb B F As σ H S _ fun w F1 As1 H1 S1 e1 p1 r1 => ha B F1 As1 σ H1 S1 _ fun v F2 As2 H2 S2 e2 p2 r2 => by
    obtain ⟨a, ws, rfl, hA, pa⟩ := hd.view S2 r2
    have ew := R.key r1 hk
    refine ⟨a, valV ws kk, rfl, ew ▸ DGet.k hA, q _ F2 As2 H2 S2 (e1.trans e2) (p1.trans p2) ?_⟩
    have : (valG kvs kk).isSome = (valV ws kk).isSome := by
      rcases pa.val kk with ⟨h1, h2⟩ | ⟨d', v', h1, h2, h3⟩ <;> rw [h1, h2] <;> rfl
    rw [this]; exact .bl _
theorem ev_dnotin {k : D} {kk : Key} {kvs : List (Key × D)} (hb : EvD K tb M E M1 (.dat k)) (ha : EvD K ta M1 E M2 x) (hk : k.key = some kk) (hd : IsDct M2 x kvs) : EvD K (tDNotIn tb ta) M E M2 (rbl (!(valG kvs kk).isSome)) := fun B F As σ H S Q q =>
  hb B F As σ H S _ fun w F1 As1 H1 S1 e1 p1 r1 => ha B F1 As1 σ H1 S1 _ fun v F2 As2 H2 S2 e2 p2 r2 => by
    obtain ⟨a, ws, rfl, hA, pa⟩ := hd.view S2 r2
    have ew := R.key r1 hk
    refine ⟨a, valV ws kk, rfl, ew ▸ DGet.k hA, q _ F2 As2 H2 S2 (e1.trans e2) (p1.trans p2) ?_⟩
    have : (valG kvs kk).isSome = (valV ws kk).isSome := by
      rcases pa.val kk with ⟨h1, h2⟩ | ⟨d', v', h1, h2, h3⟩ <;> rw [h1, h2] <;> rfl
    rw [this]; exact .bl _
/-! ### a number in a list of numbers -/
theorem inV_ints (n : Int) (ns : List Int) : inV (.int n) (ns.map V.int) = decide (n ∈ ns) := by
  unfold inV
  induction ns with
  | nil => rfl
  | cons m ns ih =>
    rw [List.map_cons, List.any_cons, ih]
    show ((m == n) || decide (n ∈ ns)) = decide (n ∈ m :: ns)
    by_cases e : m = n
    · rw [decide_eq_true (show n ∈ m :: ns from e ▸ List.mem_cons_self), beq_iff_eq.mpr e, Bool.true_or]
    · rw [beq_eq_false_iff_ne.mpr e, Bool.false_or]
      by_cases c : n ∈ ns
      · rw [decide_eq_true c, decide_eq_true (List.mem_cons_of_mem _ c)]
      · rw [decide_eq_false c, decide_eq_false (fun z => by
          rcases List.mem_cons.mp z with z | z
          · exact e z.symm
          · exact c z)]
theorem all_flat (ns : List Int) : (ns.map V.int).all flatV = true := by
  rw [List.all_eq_true]; intro v hv
  obtain ⟨n, _, rfl⟩ := List.mem_map.mp hv
  rfl
theorem od_inI {n : Int} {ns : List Int} (h : IsLst M y (ns.map D.int)) : OpD K (rIn K false) M (rint n) y M (rbl (decide (n ∈ ns))) := OpD.pure fun B F H As σ E v w S r1 r2 Q q => by
  obtain ⟨a, vs, rfl, ha, pa⟩ := h.view S r2
  cases R.int_inv r1
  rw [pa.ints] at ha
  refine ⟨a, _, rfl, .inl (SqL.of ha), rfl, all_flat ns, q _ ?_⟩
  show R K F _ (V.bl (if false = true then _ else inV (.int n) (ns.map V.int)))
  rw [if_neg Bool.false_ne_true, inV_ints]; exact .bl _
theorem od_notinI {n : Int} {ns : List Int} (h : IsLst M y (ns.map D.int)) : OpD K (rIn K true) M (rint n) y M (rbl (!decide (n ∈ ns))) := OpD.pure fun B F H As σ E v w S r1 r2 Q q => by
  obtain ⟨a, vs, rfl, ha, pa⟩ := h.view S r2
  cases R.int_inv r1
  rw [pa.ints] at ha
  refine ⟨a, _, rfl, .inl (SqL.of ha), rfl, all_flat ns, q _ ?_⟩
  show R K F _ (V.bl (if true = true then !inV (.int n) (ns.map V.int) else _))
  rw [if_pos rfl, inV_ints]; exact .bl _
end
end DL
set_option Elab.async false
set_option linter.all false
set_option maxRecDepth 100000
set_option maxHeartbeats 2000000
/-! DL, fourth part: comprehensions; the promise of a def by data (FSp), its way in, its way out, its call; statements and loops. -/
namespace DL
open PySem L2
open Evl (Ex)
section
variable {K : PySem.W.Frag} {B : Base} {F F' F1 H H' H1 : Hp} {As As' As1 : List Addr} {M M0 M1 M2 M3 M' : List MC} {σ σ' : St} {E E' : List (Option Rv)} {ta tb te tx : TE} {x y z r : Rv} {op : R2} {xs rs : List Rv} {b : Bool}
/-- a tracked thing beside the state is changed -/
theorem Sta.other (S : Sta K B F As M σ E H) {p : Addr} {o : HO} (hF : F p = none) (hA : p ∉ As) (hP : B.P p) (hH : ∃ u, H p = some u) : Sta K B F As M σ E (upd H p o) := by
  refine ⟨Ex.mut S.ex hF, S.len, S.nd, fun k a mc h1 h2 h3 => ?_, S.slots, S.bF, fun a u h hP' => ?_, S.bN, S.bA, fun a u h => ?_, fun a h => ?_, S.pA⟩
  · obtain ⟨h4, o', h5, h6⟩ := S.cell k a mc h1 h2 h3
    have e : a ≠ p := fun z => hA (z ▸ List.mem_of_getElem? h1)
    exact ⟨h4, o', by rw [upd_ne e]; exact h5, h6⟩
  · rw [upd_ne (fun z : a = p => hP' (by rw [z]; exact hP))]; exact S.bH a u h hP'
  · by_cases e : a = p
    · subst e; exact ⟨o, upd_same⟩
    · obtain ⟨u', q⟩ := S.bK a u h
      exact ⟨u', by rw [upd_ne e]; exact q⟩
  · by_cases e : a = p
    · subst e; exact ⟨o, upd_same⟩
    · obtain ⟨u', q⟩ := S.kn a h
      exact ⟨u', by rw [upd_ne e]; exact q⟩
/-- the base of a block that fills a list at p -/
def Base.at (F H : Hp) (As : List Addr) (p : Addr) (o : HO) : Base := ⟨F, upd H p o, fun a => a ∈ As ∨ a = p, As⟩
theorem Sta.toAt (S : Sta K B F As M σ E H) {p : Addr} {o : HO} (hp : H p = none) : Sta K (Base.at F H As p o) F As M σ E (upd H p o) := by
  have hA := S.off hp
  have hF := S.fresh hp
  refine ⟨Ex.mut S.ex hF, S.len, S.nd, fun k a mc h1 h2 h3 => ?_, S.slots, Ex.refl F, fun a u h _ => h, fun a u h h0 => h0, fun a h => .inl (.inl h), fun a u h => ⟨u, h⟩, fun a h => ?_, List.prefix_refl _⟩
  · obtain ⟨h4, o', h5, h6⟩ := S.cell k a mc h1 h2 h3
    exact ⟨h4, o', by rw [upd_ne (ne_of_none h5 hp)]; exact h5, h6⟩
  · obtain ⟨u', q⟩ := S.kn a h
    exact ⟨u', by rw [upd_ne (ne_of_none q hp)]; exact q⟩
/-- the filled list is frozen, the block's base left -/
theorem Sta.adopt (S : Sta K B F1 As1 M0 σ E H1) {p : Addr} {o o' : HO} (hp : H1 p = none) (S' : Sta K (Base.at F1 H1 As1 p o) F' As' M' σ' E' H') (hF : F' p = none) (hA : p ∉ As') (hH : H' p = some o') :
    Sta K B (upd F' p o') As' M' σ' E' H' ∧ Ex F' (upd F' p o') := by
  have ex : Ex F' (upd F' p o') := Ex.new hF
  have b0 := S.base_off hp
  refine ⟨⟨fun a u h => ?_, S'.len, S'.nd, fun k a mc h1 h2 h3 => ?_, S'.slots.mono ex (List.prefix_refl _), (S.bF.trans S'.bF).trans ex, fun a u h hP => ?_, fun a u h h0 => ?_, fun a h => ?_, fun a u h => ?_, S'.kn, S.pA.trans S'.pA⟩, ex⟩
  · by_cases e : a = p
    · subst e; rw [upd_same] at h; rw [← h]; exact hH
    · rw [upd_ne e] at h; exact S'.ex a u h
  · obtain ⟨h4, o2, h5, h6⟩ := S'.cell k a mc h1 h2 h3
    have e : a ≠ p := fun z => hA (z ▸ List.mem_of_getElem? h1)
    exact ⟨by rw [upd_ne e]; exact h4, o2, h5, h6.mono ex⟩
  · have e : a ≠ p := ne_of_none h b0
    refine S'.bH a u (by show upd H1 p o a = _; rw [upd_ne e]; exact S.bH a u h hP) fun z => ?_
    rcases z with z | z
    · rcases S.bA a z with q | q
      · exact hP q
      · rw [q] at h; cases h
    · exact e z
  · have e : a ≠ p := ne_of_none h b0
    obtain ⟨u', q⟩ := S.bK a u h
    rw [upd_ne e]
    exact S'.bN a u' (by show upd H1 p o a = _; rw [upd_ne e]; exact q) (S.bN a u h h0)
  · rcases S'.bA a h with (q | q) | q
    · exact S.bA a q
    · exact absurd (q ▸ h) hA
    · refine .inr ?_
      have : H1 a = none := by
        have q : upd H1 p o a = none := q
        by_cases e : a = p
        · subst e; rw [upd_same] at q; cases q
        · rwa [upd_ne e] at q
      exact S.base_off this
  · have e : a ≠ p := ne_of_none h b0
    obtain ⟨u', q⟩ := S.bK a u h
    exact S'.bK a u' (by show upd H1 p o a = _; rw [upd_ne e]; exact q)
/-! ### comprehensions -/
def givD (n : Nat) (f : Nat → Bool) (v : Nat → D) : List D := ((List.range n).filter f).map v
theorem givD_yes {n : Nat} {f : Nat → Bool} {v : Nat → D} (h : f n = true) : givD (n + 1) f v = givD n f v ++ [v n] := by
  unfold givD
  rw [List.range_succ, List.filter_append, List.map_append, List.filter_cons, if_pos h] <;> rfl
theorem givD_no {n : Nat} {f : Nat → Bool} {v : Nat → D} (h : f n = false) : givD (n + 1) f v = givD n f v := by
  unfold givD
  rw [List.range_succ, List.filter_append, List.map_append, List.filter_cons, if_neg (by rw [h]; decide)]
  show _ ++ [] = _
  rw [List.append_nil]
theorem givD_len (n : Nat) (f : Nat → Bool) (v : Nat → D) : (givD n f v).length ≤ n := by
  unfold givD
  rw [List.length_map]
  have h := List.length_filter_le f (List.range n)
  rw [List.length_range] at h
  exact h
/-- the word of a comprehension: its i-th turn -/
def LcW (K : PySem.W.Frag) (F1 H1 : Hp) (As1 : List Addr) (Ms : Nat → List MC) (f : Nat → Bool) (v : Nat → D) (σ : St) (E : List (Option Rv)) (p : Addr) (i : Nat) (H' : Hp) : Prop :=
  ∃ F' As' acc, Sta K (Base.at F1 H1 As1 p (.lst [])) F' As' (Ms i) σ E H' ∧ F' p = none ∧ p ∉ As' ∧ As1 <+: As' ∧ H' p = some (.lst acc) ∧ P2 (R K F') (givD i f v) acc
theorem lcw_turn {tt : TT} {Ms : Nat → List MC} {f : Nat → Bool} {v : Nat → D} {p : Addr} {i : Nat} {Mt : List MC} {σ2 : St} {E2 : List (Option Rv)} (h : LcW K F1 H1 As1 Ms f v σ E p i H') (hi : i < 16777000)
    (hES : ∀ F', Ex F1 F' → ∀ As', As1 <+: As' → ES K F' As' σ E → ES K F' As' σ2 E2)
    (ht : EvT K tt (Ms i) E2 Mt (f i)) (he : f i = true → EvD K te Mt E2 (Ms (i + 1)) (.dat (v i))) (hn : f i = false → Ms (i + 1) = Mt) :
    tt σ2 H' fun b H3 => if b = true then te σ2 H3 fun y H4 => ∃ acc, H4 p = some (.lst acc) ∧ acc.length < sizeLine ∧ LcW K F1 H1 As1 Ms f v σ E p (i + 1) (upd H4 p (.lst (acc ++ [y]))) else LcW K F1 H1 As1 Ms f v σ E p (i + 1) H3 := by
  obtain ⟨F', As', acc, S', hF, hA, hpre, hH, hr⟩ := h
  have S2 : Sta K (Sta.self F' H' As') F' As' (Ms i) σ2 E2 H' := ⟨S'.ex, S'.len, S'.nd, S'.cell, hES F' S'.bF As' hpre S'.slots, Ex.refl F', fun a o h _ => h, fun a o _ h => h, fun a h => .inl h, fun a o h => ⟨o, h⟩, S'.kn, List.prefix_refl _⟩
  refine ht _ _ _ _ _ S2 _ fun F3 As3 H3 S3 e3 p3 => ?_
  have hH3 : H3 p = some (.lst acc) := S3.bH p _ hH hA
  have hF3 : F3 p = none := S3.bN p _ hH hF
  have hA3 : p ∉ As3 := fun z => by
    rcases S3.bA p z with q | q
    · exact hA q
    · have q : H' p = none := q
      rw [hH] at q; cases q
  -- back to the block's base, with the slots of the outer state
  have back : ∀ {F4 As4 M4 H4}, Sta K (Sta.self F' H' As') F4 As4 M4 σ2 E2 H4 → As' <+: As4 → Sta K (Base.at F1 H1 As1 p (.lst [])) F4 As4 M4 σ E H4 := fun {F4 As4 M4 H4} S4 p4 =>
    S'.rebase ⟨S4.ex, S4.len, S4.nd, S4.cell, S'.slots.mono S4.bF p4, S4.bF, S4.bH, S4.bN, S4.bA, S4.bK, S4.kn, S4.pA⟩
  cases hf : f i with
  | false =>
    show LcW K F1 H1 As1 Ms f v σ E p (i + 1) H3
    refine ⟨F3, As3, acc, ?_, hF3, hA3, hpre.trans p3, hH3, ?_⟩
    · rw [hn hf]; exact back S3 p3
    · rw [givD_no hf]; exact hr.imp fun _ _ z => z.mono e3
  | true =>
    show te σ2 H3 fun y H4 => ∃ acc, H4 p = some (.lst acc) ∧ acc.length < sizeLine ∧ LcW K F1 H1 As1 Ms f v σ E p (i + 1) (upd H4 p (.lst (acc ++ [y])))
    refine he hf _ _ _ _ _ S3 _ fun u F4 As4 H4 S4 e4 p4 r4 => ?_
    have hH4 : H4 p = some (.lst acc) := S4.bH p _ hH hA
    have hF4 : F4 p = none := S4.bN p _ hH hF
    have hA4 : p ∉ As4 := fun z => by
      rcases S4.bA p z with q | q
      · exact hA q
      · have q : H' p = none := q
        rw [hH] at q; cases q
    refine ⟨acc, hH4, szlt ?_, F4, As4, acc ++ [u], ?_, hF4, hA4, hpre.trans (p3.trans p4), upd_same, ?_⟩
    · have := givD_len i f v
      rw [hr.1] at this; omega
    · exact (back S4 (p3.trans p4)).other hF4 hA4 (.inr rfl) ⟨_, hH4⟩
    · rw [givD_yes hf]
      exact (hr.imp fun _ _ z => z.mono (e3.trans e4)).append (P2.single r4)
theorem wipe_one (σ : St) (j : Nat) (x : Option V) : wipe ((wipe σ [j]).set j x) [j] = wipe σ [j] := by
  show ((σ.set j none).set j x).set j none = σ.set j none
  rw [List.set_set, List.set_set]
theorem ES.setW {F : Hp} {As : List Addr} {j : Nat} {r : Rv} {v : V} (h : ES K F As σ E) (q : RV K F As r v) : ES K F As ((wipe σ [j]).set j (some v)) (E.set j (some r)) := by
  show ES K F As ((σ.set j none).set j (some v)) _
  rw [List.set_set]
  exact h.set q
/-- the end of a comprehension -/
theorem lcw_done (S1 : Sta K B F1 As1 M0 σ E H1) {p : Addr} (hp : H1 p = none) {Ms : Nat → List MC} {f : Nat → Bool} {v : Nat → D} {n : Nat} (h : LcW K F1 H1 As1 Ms f v σ E p n H') {Q : VK}
    (q : ∀ u F' As' H', Sta K B F' As' (Ms n) σ E H' → Ex F1 F' → As1 <+: As' → RV K F' As' (.dat (.lst (givD n f v))) u → Q u H') : Q (.ref p) H' := by
  obtain ⟨F', As', acc, S', hF, hA, hpre, hH, hr⟩ := h
  obtain ⟨S2, e2⟩ := S1.adopt hp S' hF hA hH
  exact q _ _ _ _ S2 (S'.bF.trans e2) hpre (R.lst' upd_same (hr.imp fun _ _ z => z.mono e2))
/-- .. the list to be changed later -/
theorem lcw_doneM (S1 : Sta K B F1 As1 M0 σ E H1) {p : Addr} (hp : H1 p = none) {Ms : Nat → List MC} {f : Nat → Bool} {v : Nat → D} {n : Nat} (h : LcW K F1 H1 As1 Ms f v σ E p n H') {Q : VK}
    (q : ∀ u F' As' H', Sta K B F' As' (Ms n ++ [.lst (givD n f v)]) σ E H' → Ex F1 F' → As1 <+: As' → RV K F' As' (.cel (Ms n).length) u → Q u H') : Q (.ref p) H' := by
  obtain ⟨F', As', acc, S', hF, hA, hpre, hH, hr⟩ := h
  have b0 := S1.base_off hp
  have S2 : Sta K B F' (As' ++ [p]) (Ms n ++ [.lst (givD n f v)]) σ E H' := by
    refine ⟨S'.ex, by rw [List.length_append, List.length_append, S'.len]; rfl, ?_, fun k a mc h1 h2 h3 => ?_, S'.slots.mono (Ex.refl F') (List.prefix_append _ _), S1.bF.trans S'.bF, fun a u h hP => ?_, fun a u h h0 => ?_, fun a h => ?_, fun a u h => ?_, fun a h => ?_, (S1.pA.trans S'.pA).trans (List.prefix_append _ _)⟩
    · rw [List.nodup_append]
      refine ⟨S'.nd, by simp, fun a ha b hb e => ?_⟩
      simp at hb
      subst e; subst hb; exact hA ha
    · rcases getElem?_concat h1 with q1 | ⟨q1, q2⟩
      · rcases getElem?_concat h2 with q3 | ⟨q3, q4⟩
        · obtain ⟨z1, o, z2, z3⟩ := S'.cell k a mc q1 q3 h3
          exact ⟨z1, o, z2, z3.mono2 (Ex.refl _) (List.prefix_append _ _)⟩
        · have := (List.getElem?_eq_some_iff.mp q1).1
          rw [S'.len] at this; omega
      · rcases getElem?_concat h2 with q3 | ⟨q3, q4⟩
        · have := (List.getElem?_eq_some_iff.mp q3).1
          rw [← S'.len] at this; omega
        · subst q2; subst q4
          exact ⟨hF, _, hH, acc, rfl, hr⟩
    · have e : a ≠ p := ne_of_none h b0
      refine S'.bH a u (by show upd H1 p _ a = _; rw [upd_ne e]; exact S1.bH a u h hP) fun z => ?_
      rcases z with z | z
      · rcases S1.bA a z with q | q
        · exact hP q
        · rw [q] at h; cases h
      · exact e z
    · have e : a ≠ p := ne_of_none h b0
      obtain ⟨u', q⟩ := S1.bK a u h
      exact S'.bN a u' (by show upd H1 p _ a = _; rw [upd_ne e]; exact q) (S1.bN a u h h0)
    · rcases List.mem_append.mp h with h | h
      · rcases S'.bA a h with (q | q) | q
        · exact S1.bA a q
        · exact absurd (q ▸ h) hA
        · refine .inr ?_
          have : H1 a = none := by
            have q : upd H1 p _ a = none := q
            by_cases e : a = p
            · subst e; rw [upd_same] at q; cases q
            · rwa [upd_ne e] at q
          exact S1.base_off this
      · simp at h; subst h; exact .inr b0
    · have e : a ≠ p := ne_of_none h b0
      obtain ⟨u', q⟩ := S1.bK a u h
      exact S'.bK a u' (by show upd H1 p _ a = _; rw [upd_ne e]; exact q)
    · rcases List.mem_append.mp h with h | h
      · exact S'.kn a h
      · simp at h; subst h; exact ⟨_, hH⟩
  exact q _ _ _ _ S2 S'.bF (hpre.trans (List.prefix_append _ _)) ⟨p, by rw [List.getElem?_append_right (by rw [S'.len]; exact Nat.le_refl _), S'.len]; simp, rfl⟩
theorem lcw_start (S1 : Sta K B F1 As1 M1 σ E H1) {p : Addr} (hp : H1 p = none) {Ms : Nat → List MC} {f : Nat → Bool} {v : Nat → D} (h0 : Ms 0 = M1) : LcW K F1 H1 As1 Ms f v σ E p 0 (upd H1 p (.lst [])) := by
  refine ⟨F1, As1, [], ?_, S1.fresh hp, S1.off hp, List.prefix_refl _, upd_same, P2.nil⟩
  rw [h0]
  exact S1.toAt hp
/-- what the turn of a comprehension gives -/
def LcT (K : PySem.W.Frag) (tt : TT) (te : TE) (Ms : Nat → List MC) (f : Nat → Bool) (v : Nat → D) (E2 : List (Option Rv)) (i : Nat) : Prop :=
  ∃ Mt, EvT K tt (Ms i) E2 Mt (f i) ∧ (f i = true → EvD K te Mt E2 (Ms (i + 1)) (.dat (v i))) ∧ (f i = false → Ms (i + 1) = Mt)
/-- [e for x in range(n) if t] -/
theorem ev_lcR1 {t : TA} {tt : TT} {j : Nat} {n : Int} (Ms : Nat → List MC) (f : Nat → Bool) (v : Nat → D) (ha : EvA K t M E M1 [rint n]) (hn : -16777000 ≤ n ∧ n ≤ 16777000) (h0 : Ms 0 = M1)
    (hb : ∀ i : Nat, (i : Int) < n → LcT K tt te Ms f v (E.set j (some (rint (i : Int)))) i) : EvD K (tLc (iRng1 t) (gName j) tt te [j]) M E (Ms n.toNat) (.dat (.lst (givD n.toNat f v))) := fun B F As σ H S Q q =>
  ha B F As σ H S _ fun vs F1 As1 H1 S1 e1 p1 r1 => by
    obtain ⟨w, rfl, hw⟩ := r1.one
    cases R.int_inv hw
    refine ⟨n, rfl, by omega, by omega, fun p hp => lc_range (lo := 0) (n := n.toNat) (LcW K F1 H1 As1 Ms f v σ E p) (lcw_start S1 hp h0) (fun i H' hi h => ?_) fun H' h => lcw_done S1 hp h fun u F' As' H' S' e' p' r' => q u F' As' H' S' (e1.trans e') (p1.trans p') r'⟩
    obtain ⟨Mt, h1, h2, h3⟩ := hb i (by omega)
    have e0 : (0 : Int) + (i : Int) = (i : Int) := Int.zero_add _
    rw [e0]
    exact ⟨wipe_one σ j _, lcw_turn h (by omega) (fun F' _ As' _ hE => hE.setW (r := rint (i : Int)) (.int _)) h1 h2 h3⟩
/-- .. the list to be changed later -/
theorem ev_lcR1M {t : TA} {tt : TT} {j : Nat} {n : Int} (Ms : Nat → List MC) (f : Nat → Bool) (v : Nat → D) (ha : EvA K t M E M1 [rint n]) (hn : -16777000 ≤ n ∧ n ≤ 16777000) (h0 : Ms 0 = M1)
    (hb : ∀ i : Nat, (i : Int) < n → LcT K tt te Ms f v (E.set j (some (rint (i : Int)))) i) : EvD K (tLc (iRng1 t) (gName j) tt te [j]) M E (Ms n.toNat ++ [.lst (givD n.toNat f v)]) (.cel (Ms n.toNat).length) := fun B F As σ H S Q q =>
  ha B F As σ H S _ fun vs F1 As1 H1 S1 e1 p1 r1 => by
    obtain ⟨w, rfl, hw⟩ := r1.one
    cases R.int_inv hw
    refine ⟨n, rfl, by omega, by omega, fun p hp => lc_range (lo := 0) (n := n.toNat) (LcW K F1 H1 As1 Ms f v σ E p) (lcw_start S1 hp h0) (fun i H' hi h => ?_) fun H' h => lcw_doneM S1 hp h fun u F' As' H' S' e' p' r' => q u F' As' H' S' (e1.trans e') (p1.trans p') r'⟩
    obtain ⟨Mt, h1, h2, h3⟩ := hb i (by omega)
    have e0 : (0 : Int) + (i : Int) = (i : Int) := Int.zero_add _
    rw [e0]
    exact ⟨wipe_one σ j _, lcw_turn h (by omega) (fun F' _ As' _ hE => hE.setW (r := rint (i : Int)) (.int _)) h1 h2 h3⟩
/-- [e for x in range(a, n) if t] -/
theorem ev_lcR2 {t : TA} {tt : TT} {j : Nat} {a n : Int} (Ms : Nat → List MC) (f : Nat → Bool) (v : Nat → D) (ha : EvA K t M E M1 [rint a, rint n]) (hn : -8000000 ≤ n ∧ n ≤ 8000000 ∧ -8000000 ≤ a ∧ a ≤ 8000000) (h0 : Ms 0 = M1)
    (hb : ∀ i : Nat, a + (i : Int) < n → LcT K tt te Ms f v (E.set j (some (rint (a + (i : Int))))) i) : EvD K (tLc (iRng2 t) (gName j) tt te [j]) M E (Ms (n - a).toNat) (.dat (.lst (givD (n - a).toNat f v))) := fun B F As σ H S Q q =>
  ha B F As σ H S _ fun vs F1 As1 H1 S1 e1 p1 r1 => by
    obtain ⟨w, w2, rfl, hw, hw2⟩ := r1.two
    cases R.int_inv hw; cases R.int_inv hw2
    refine ⟨a, n, rfl, ⟨by omega, by omega, by omega, by omega⟩, fun p hp => lc_range (lo := a) (n := (n - a).toNat) (LcW K F1 H1 As1 Ms f v σ E p) (lcw_start S1 hp h0) (fun i H' hi h => ?_) fun H' h => lcw_done S1 hp h fun u F' As' H' S' e' p' r' => q u F' As' H' S' (e1.trans e') (p1.trans p') r'⟩
    obtain ⟨Mt, h1, h2, h3⟩ := hb i (by omega)
    exact ⟨wipe_one σ j _, lcw_turn h (by omega) (fun F' _ As' _ hE => hE.setW (r := rint (a + (i : Int))) (.int _)) h1 h2 h3⟩
/-- [e for x in xs if t], xs data -/
theorem ev_lcL {tl : TE} {tt : TT} {j : Nat} {ds : List D} (Ms : Nat → List MC) (f : Nat → Bool) (v : Nat → D) (ha : EvD K tl M E M1 (.dat (.lst ds))) (hn : ds.length ≤ 16777000) (h0 : Ms 0 = M1)
    (hb : ∀ (i : Nat) (d : D), ds[i]? = some d → LcT K tt te Ms f v (E.set j (some (.dat d))) i) : EvD K (tLc (iList K tl) (gName j) tt te [j]) M E (Ms ds.length) (.dat (.lst (givD ds.length f v))) := fun B F As σ H S Q q =>
  ha B F As σ H S _ fun w F1 As1 H1 S1 e1 p1 r1 => by
    obtain ⟨a, ws, rfl, hA, pa⟩ := R.lst_inv r1
    refine ⟨a, rfl, ⟨ws, SqL.of (S1.ex _ _ hA)⟩, fun p hp => lc_list (K := K) (a := a) (xs := ws) (LcW K F1 H1 As1 Ms f v σ E p) (lcw_start S1 hp h0) (fun i H' _ ⟨F', As', acc, S', _⟩ => SqL.of (S'.ex _ _ (S'.bF _ _ hA))) (fun i x H' hi h => ?_) fun H' h => ?_⟩
    · obtain ⟨d, hd, rd⟩ := pa.flip.get hi
      obtain ⟨Mt, h1, h2, h3⟩ := hb i d hd
      have hil := (List.getElem?_eq_some_iff.mp hd).1
      exact ⟨wipe_one σ j _, lcw_turn h (by omega) (fun F' eF As' _ hE => hE.setW (r := .dat d) (R.mono rd eF)) h1 h2 h3⟩
    · rw [← pa.1] at h
      exact lcw_done S1 hp h fun u F' As' H' S' e' p' r' => q u F' As' H' S' (e1.trans e') (p1.trans p') r'
theorem et_yes : EvT K tYes M E M true := fun B F As σ H S Q q => q F As H S (Ex.refl F) (List.prefix_refl _)
/-- a turn without a test that leaves the cells -/
theorem LcT.plain {v : Nat → D} {E2 : List (Option Rv)} {i : Nat} (h : EvD K te M E2 M (.dat (v i))) : LcT K tYes te (fun _ => M) (fun _ => true) v E2 i := ⟨M, et_yes, fun _ => h, fun z => by cases z⟩
theorem LcT.moved {Ms : Nat → List MC} {v : Nat → D} {E2 : List (Option Rv)} {i : Nat} (h : EvD K te (Ms i) E2 (Ms (i + 1)) (.dat (v i))) : LcT K tYes te Ms (fun _ => true) v E2 i := ⟨Ms i, et_yes, fun _ => h, fun z => by cases z⟩
theorem LcT.tested {tt : TT} {f : Nat → Bool} {v : Nat → D} {E2 : List (Option Rv)} {i : Nat} (ht : EvT K tt M E2 M (f i)) (h : f i = true → EvD K te M E2 M (.dat (v i))) : LcT K tt te (fun _ => M) f v E2 i := ⟨M, ht, h, fun _ => rfl⟩
theorem givD_all (n : Nat) (v : Nat → D) : givD n (fun _ => true) v = (List.range n).map v := by
  unfold givD
  rw [List.filter_eq_self.mpr (fun _ _ => rfl)]
end
end DL
set_option Elab.async false
set_option linter.all false
set_option maxRecDepth 100000
set_option maxHeartbeats 2000000
/-! DL, fifth part: the promise of a def by data (FSp), its way in, its way out, its call. -/
namespace DL
open PySem L2
open Evl (Ex)
/-- what a def gives: data, or a new cell that nobody else holds; or it raises an own error, with its fields -/
inductive Out where
  | ret (d : D) | new (mc : MC) | exc (C : Addr) (fs : List (Str × D)) | grow (ms : List MC) (r : Rv)
/-- behind the def: its frame's state, the cells that were handed in first -/
structure Fin (K : PySem.W.Frag) (F H : Hp) (As : List Addr) (M' : List MC) (F' H' : Hp) (As' : List Addr) (M'' : List MC) : Prop where
  sta : ∃ σ E, Sta K (Sta.self F H As) F' As' M'' σ E H'
  pre : As <+: As'
  cut : M''.take As.length = M'
  len : M'.length = As.length
def FSp (K : PySem.W.Frag) (Φ : List MC → List Rv → List MC → Out → Prop) : Sp := fun vs H Q E => ∃ F As M rs M' o,
  Sta K (Sta.self F H As) F As M (vs.map some) (rs.map some) H ∧ Live M ∧ Φ M rs M' o ∧ match o with
    | .ret d => ∀ v F' As' M'' H', Fin K F H As M' F' H' As' M'' → R K F' d v → Q v H'
    | .new mc => ∀ v k F' As' M'' H', Fin K F H As M' F' H' As' M'' → As.length ≤ k → M''[k]? = some mc → mc ≠ .gone → RV K F' As' (.cel k) v → Q v H'
    | .exc C fs => ∀ dd ws F' As' M'' H', Fin K F H As M' F' H' As' M'' → H' dd = none → PK (R K F') fs ws → E (.ref C) (some dd) (upd H' dd (.xd ws))
    | .grow ms r => ∀ v F' As' M'' H', Fin K F H As M' F' H' As' M'' → M''.drop As.length = ms → RV K F' As' r v → Q v H'
section
variable {K : PySem.W.Frag} {B : Base} {F F' F1 H H' H1 : Hp} {As As' As1 : List Addr} {M M0 M0' M1 M2 M3 M' M'' : List MC} {σ σ' : St} {E E' : List (Option Rv)} {ta tb te tx : TE} {x y z r : Rv} {op : R2} {xs rs rs0 : List Rv} {b : Bool} {Φ : List MC → List Rv → List MC → Out → Prop} {XX : XK}
/-! ### the call -/
/-- no cell goes in -/
theorem ev_call0 {t : TA} {d : D} (ha : EvA K t M E M1 xs) (hx : dats xs ≠ none) (hΦ : Φ [] xs [] (.ret d)) : EvD K (tCall (FSp K Φ) [] XX t) M E M1 (.dat d) := fun B F As σ H S Q q =>
  ha B F As σ H S _ fun vs F1 As1 H1 S1 e1 p1 r1 => by
    rw [List.append_nil]
    obtain ⟨ds, hds⟩ := Option.ne_none_iff_exists'.mp hx
    have hxs := dats_eq hds
    have r0 : P2 (RV K F1 []) xs vs := by
      rw [hxs] at r1 ⊢
      refine ⟨r1.1, fun i x y a b => ?_⟩
      have := r1.2 i x y a b
      rw [List.getElem?_map] at a
      cases c : ds[i]? with
      | none => rw [c] at a; cases a
      | some d => rw [c] at a; cases a; exact this
    refine ⟨F1, [], [], xs, [], .ret d, ⟨S1.ex, rfl, List.nodup_nil, fun k a mc h => by simp at h, ⟨by simp [r1.1], fun i r h => ?_⟩, Ex.refl F1, fun a o h _ => h, fun a o _ h => h, fun a h => (by cases h), fun a o h => ⟨o, h⟩, fun a h => (by cases h), List.prefix_refl _⟩, Live.nil, hΦ, fun v F' As' M'' H' fin rv => ?_⟩
    · rw [List.getElem?_map] at h
      cases c : xs[i]? with
      | none => rw [c] at h; cases h
      | some x =>
        rw [c] at h; cases h
        obtain ⟨v, hv, rv⟩ := r0.get c
        exact ⟨v, by rw [List.getElem?_map, hv]; rfl, rv⟩
    · obtain ⟨σ', E', S'⟩ := fin.sta
      have keep : ∀ a o, H1 a = some o → H' a = some o := fun a o h => S'.bH a o h (fun z => by cases z)
      have S2 : Sta K B F' As1 M1 σ E H' := by
        refine ⟨S'.ex, S1.len, S1.nd, fun k a mc h1 h2 h3 => ?_, S1.slots.mono S'.bF (List.prefix_refl _), S1.bF.trans S'.bF, fun a o h hP => keep _ _ (S1.bH a o h hP), fun a o h h0 => ?_, S1.bA, fun a o h => ?_, fun a h => ?_, S1.pA⟩
        · obtain ⟨h4, o, h5, h6⟩ := S1.cell k a mc h1 h2 h3
          exact ⟨S'.bN a o h5 h4, o, keep _ _ h5, h6.mono S'.bF⟩
        · obtain ⟨u, hu⟩ := S1.bK a o h
          exact S'.bN a u hu (S1.bN a o h h0)
        · obtain ⟨u, hu⟩ := S1.bK a o h
          exact ⟨u, keep _ _ hu⟩
        · obtain ⟨u, hu⟩ := S1.kn a h
          exact ⟨u, keep _ _ hu⟩
      exact q v F' As1 H' S2 (e1.trans S'.bF) p1 rv
/-- the caller's state behind a call with the cell k handed in -/
theorem Sta.after1 {k : Nat} {a : Addr} {mc mc' : MC} {o0 : HO} (S1 : Sta K B F1 As1 M1 σ E H1) (ha : As1[k]? = some a) (hk : M1[k]? = some mc) (fin : Fin K F1 H1 [a] [mc'] F' H' As' M'') (hf : ¬ mc'.isDeep) :
    Sta K B F' As1 (M1.set k mc') σ E H' := by
  obtain ⟨σ', E', S'⟩ := fin.sta
  have keep : ∀ b o, H1 b = some o → b ≠ a → H' b = some o := fun b o h hb => S'.bH b o h (fun z => hb (by simpa [Sta.self] using z))
  obtain ⟨t, ht⟩ := fin.pre
  have hA0 : As'[0]? = some a := by rw [← ht]; rfl
  have hM0 : M''[0]? = some mc' := by
    have := fin.cut
    have h2 : (M''.take 1)[0]? = some mc' := by
      have h3 : M''.take 1 = [mc'] := this
      rw [h3]; rfl
    rw [List.getElem?_take] at h2
    simpa using h2
  refine ⟨S'.ex, by rw [List.length_set]; exact S1.len, S1.nd, fun j b m h1 h2 h3 => ?_, S1.slots.mono S'.bF (List.prefix_refl _), S1.bF.trans S'.bF, fun b o h hP => ?_, fun b o h h0 => ?_, S1.bA, fun b o h => ?_, fun b h => ?_, S1.pA⟩
  · by_cases e : k = j
    · subst e
      rw [ha] at h1; cases h1
      rw [List.getElem?_set_self (List.getElem?_eq_some_iff.mp hk).1] at h2
      cases h2
      obtain ⟨z1, o, z2, z3⟩ := S'.cell 0 a mc' hA0 hM0 h3
      exact ⟨z1, o, z2, z3.flat hf⟩
    · rw [List.getElem?_set_ne e] at h2
      obtain ⟨h4, o, h5, h6⟩ := S1.cell j b m h1 h2 h3
      have hb : b ≠ a := fun z => e (S1.uniq ha (z ▸ h1))
      exact ⟨S'.bN b o h5 h4, o, keep _ _ h5 hb, h6.mono S'.bF⟩
  · refine keep _ _ (S1.bH b o h hP) fun z => ?_
    rcases S1.bA a (List.mem_of_getElem? ha) with q | q
    · exact hP (z ▸ q)
    · rw [z, q] at h; cases h
  · obtain ⟨u, hu⟩ := S1.bK b o h
    exact S'.bN b u hu (S1.bN b o h h0)
  · obtain ⟨u, hu⟩ := S1.bK b o h
    exact S'.bK b u hu
  · obtain ⟨u, hu⟩ := S1.kn b h
    exact S'.bK b u hu
theorem Sta.before1 {k : Nat} {a : Addr} {mc : MC} {vs : List V} (S1 : Sta K B F1 As1 M1 σ E H1) (ha : As1[k]? = some a) (hk : M1[k]? = some mc) (hg : ¬ mc.bad) {rs0 : List Rv} (r0 : P2 (RV K F1 [a]) rs0 vs) :
    Sta K (Sta.self F1 H1 [a]) F1 [a] [mc] (vs.map some) (rs0.map some) H1 := by
  obtain ⟨g1, o1, g2, g3⟩ := S1.cell k a mc ha hk (MC.bad_gone hg)
  refine ⟨S1.ex, rfl, by simp, fun j b m h1 h2 h3 => ?_, ⟨by simp [r0.1], fun i r h => ?_⟩, Ex.refl F1, fun b o h _ => h, fun b o _ h => h, fun b h => .inl h, fun b o h => ⟨o, h⟩, fun b h => ?_, List.prefix_refl _⟩
  · cases j with
    | zero => cases h1; cases h2; exact ⟨g1, o1, g2, g3.flat (MC.bad_deep hg)⟩
    | succ j => simp at h1
  · rw [List.getElem?_map] at h
    cases c : rs0[i]? with
    | none => rw [c] at h; cases h
    | some x =>
      rw [c] at h; cases h
      obtain ⟨v, hv, rv⟩ := r0.get c
      exact ⟨v, by rw [List.getElem?_map, hv]; rfl, rv⟩
  · have : b = a := by simpa using h
    subst this
    exact ⟨o1, g2⟩
/-- the first argument is a cell, all others are data -/
theorem ev_call1 {t : TA} {k : Nat} {ds : List Rv} {mc mc' : MC} {d : D} (ha : EvA K t M E M1 (.cel k :: ds)) (hx : dats ds ≠ none) (hk : M1[k]? = some mc) (hg : ¬ mc.bad) (hΦ : Φ [mc] (.cel 0 :: ds) [mc'] (.ret d)) (hf : ¬ mc'.isDeep := by intro z; cases z) :
    EvD K (tCall (FSp K Φ) [] XX t) M E (M1.set k mc') (.dat d) := fun B F As σ H S Q q =>
  ha B F As σ H S _ fun vs F1 As1 H1 S1 e1 p1 r1 => by
    rw [List.append_nil]
    obtain ⟨es, hds⟩ := Option.ne_none_iff_exists'.mp hx
    have hxs := dats_eq hds
    obtain ⟨v0, ws, rfl, ⟨a, hA, rfl⟩, rw_⟩ := r1.inv_cons
    have r0 : P2 (RV K F1 [a]) (.cel 0 :: ds) (.ref a :: ws) := by
      refine P2.cons ⟨a, rfl, rfl⟩ ?_
      rw [hxs] at rw_ ⊢
      refine ⟨rw_.1, fun i x y a b => ?_⟩
      have := rw_.2 i x y a b
      rw [List.getElem?_map] at a
      cases c : es[i]? with
      | none => rw [c] at a; cases a
      | some d => rw [c] at a; cases a; exact this
    refine ⟨F1, [a], [mc], _, [mc'], .ret d, S1.before1 hA hk hg r0, trivial, hΦ, fun v F' As' M'' H' fin rv => ?_⟩
    · have S2 := S1.after1 (o0 := .lst []) hA hk fin hf
      obtain ⟨σ', E', S'⟩ := fin.sta
      exact q v F' As1 H' S2 (e1.trans S'.bF) p1 rv
/-- what is known of a cell is forgotten -/
theorem Sta.forget (S : Sta K B F As M σ E H) (k : Nat) : Sta K B F As (M.set k .gone) σ E H :=
  { S with
    len := by rw [List.length_set]; exact S.len
    cell := fun j a mc h1 h2 h3 => by
      by_cases e : k = j
      · subst e
        by_cases hk : k < M.length
        · rw [List.getElem?_set_self hk] at h2
          cases h2
          exact absurd rfl h3
        · rw [List.getElem?_eq_none (by rw [List.length_set]; omega)] at h2
          cases h2
      · rw [List.getElem?_set_ne e] at h2
        exact S.cell j a mc h1 h2 h3 }
/-- no cell goes in, a new cell comes out -/
theorem ev_callN {t : TA} {mc : MC} (ha : EvA K t M E M1 xs) (hx : dats xs ≠ none) (hΦ : Φ [] xs [] (.new mc)) (hf : ¬ mc.isDeep := by intro z; cases z) : EvD K (tCall (FSp K Φ) [] XX t) M E (M1 ++ [mc]) (.cel M1.length) := fun B F As σ H S Q q =>
  ha B F As σ H S _ fun vs F1 As1 H1 S1 e1 p1 r1 => by
    rw [List.append_nil]
    obtain ⟨ds, hds⟩ := Option.ne_none_iff_exists'.mp hx
    have hxs := dats_eq hds
    have r0 : P2 (RV K F1 []) xs vs := by
      rw [hxs] at r1 ⊢
      refine ⟨r1.1, fun i x y a b => ?_⟩
      have := r1.2 i x y a b
      rw [List.getElem?_map] at a
      cases c : ds[i]? with
      | none => rw [c] at a; cases a
      | some d => rw [c] at a; cases a; exact this
    refine ⟨F1, [], [], xs, [], .new mc, ⟨S1.ex, rfl, List.nodup_nil, fun k a mc h => by simp at h, ⟨by simp [r1.1], fun i r h => ?_⟩, Ex.refl F1, fun a o h _ => h, fun a o _ h => h, fun a h => (by cases h), fun a o h => ⟨o, h⟩, fun a h => (by cases h), List.prefix_refl _⟩, Live.nil, hΦ, fun v k F' As' M'' H' fin hk hm hg rv => ?_⟩
    · rw [List.getElem?_map] at h
      cases c : xs[i]? with
      | none => rw [c] at h; cases h
      | some x =>
        rw [c] at h; cases h
        obtain ⟨v, hv, rv⟩ := r0.get c
        exact ⟨v, by rw [List.getElem?_map, hv]; rfl, rv⟩
    · obtain ⟨σ', E', S'⟩ := fin.sta
      obtain ⟨a, hA, rfl⟩ := rv
      have keep : ∀ a o, H1 a = some o → H' a = some o := fun a o h => S'.bH a o h (fun z => by cases z)
      obtain ⟨g1, o, g2, g3⟩ := S'.cell k a mc hA hm hg
      have new : H1 a = none := by
        rcases S'.bA a (List.mem_of_getElem? hA) with q | q
        · cases q
        · exact q
      have hnA : a ∉ As1 := S1.off new
      have S2 : Sta K B F' (As1 ++ [a]) (M1 ++ [mc]) σ E H' := by
        refine ⟨S'.ex, by rw [List.length_append, List.length_append, S1.len]; rfl, ?_, fun k b m h1 h2 h3 => ?_, S1.slots.mono S'.bF (List.prefix_append _ _), S1.bF.trans S'.bF, fun b o h hP => keep _ _ (S1.bH b o h hP), fun b o h h0 => ?_, fun b h => ?_, fun b o h => ?_, fun b h => ?_, S1.pA.trans (List.prefix_append _ _)⟩
        · rw [List.nodup_append]
          refine ⟨S1.nd, by simp, fun x hx y hy e => ?_⟩
          simp at hy
          subst e; subst hy; exact hnA hx
        · rcases getElem?_concat h1 with q1 | ⟨q1, q2⟩
          · rcases getElem?_concat h2 with q3 | ⟨q3, q4⟩
            · obtain ⟨h4, o, h5, h6⟩ := S1.cell k b m q1 q3 h3
              exact ⟨S'.bN b o h5 h4, o, keep _ _ h5, h6.mono2 S'.bF (List.prefix_append _ _)⟩
            · have := (List.getElem?_eq_some_iff.mp q1).1
              rw [S1.len] at this; omega
          · rcases getElem?_concat h2 with q3 | ⟨q3, q4⟩
            · have := (List.getElem?_eq_some_iff.mp q3).1
              rw [← S1.len] at this; omega
            · subst q2; subst q4
              exact ⟨g1, o, g2, g3.flat hf⟩
        · obtain ⟨u, hu⟩ := S1.bK b o h
          exact S'.bN b u hu (S1.bN b o h h0)
        · rcases List.mem_append.mp h with h | h
          · exact S1.bA b h
          · simp at h; subst h; exact .inr (S1.base_off new)
        · obtain ⟨u, hu⟩ := S1.bK b o h
          exact ⟨u, keep _ _ hu⟩
        · rcases List.mem_append.mp h with h | h
          · obtain ⟨u, hu⟩ := S1.kn b h
            exact ⟨u, keep _ _ hu⟩
          · simp at h; subst h; exact ⟨o, g2⟩
      exact q _ F' (As1 ++ [a]) H' S2 (e1.trans S'.bF) (p1.trans (List.prefix_append _ _)) ⟨a, by rw [List.getElem?_append_right (by rw [S1.len]; exact Nat.le_refl _), S1.len]; simp, rfl⟩
/-! ### the way in, the way out -/
theorem start_eq (N : List Str) (vs : List V) : start N vs = vs.map some ++ List.replicate (N.length - vs.length) none := rfl
/-- the slots at the start of a def of n names -/
def ent (n : Nat) (rs : List Rv) : List (Option Rv) := rs.map some ++ List.replicate (n - rs.length) none
theorem Sta.enter {vs : List V} (N : List Str) (S : Sta K B F As M (vs.map some) (rs.map some) H) : Sta K B F As M (start N vs) (ent N.length rs) H := by
  have hl : rs.length = vs.length := by have := S.slots.1; simpa using this
  refine { S with slots := ⟨by rw [start_eq, ent]; simp [hl], fun i r h => ?_⟩ }
  by_cases hi : i < rs.length
  · have h : (rs.map some)[i]? = some (some r) := by
      rw [ent, List.getElem?_append_left (by rw [List.length_map]; exact hi)] at h
      exact h
    obtain ⟨v, h1, h2⟩ := S.slots.2 i r h
    exact ⟨v, by rw [start_eq, List.getElem?_append_left (by rw [List.length_map]; omega)]; exact h1, h2⟩
  · rw [ent, List.getElem?_append_right (by rw [List.length_map]; omega), List.getElem?_replicate] at h
    split at h
    · cases h
    · cases h
/-- a def's body by data: from its promise to its reading -/
theorem FSp.reading {N : List Str} {vs : List V} {H : Hp} {Q : VK} {X : XK} {t : TS} (h : FSp K Φ vs H Q X)
    (body : ∀ F As M rs M' o, Φ M rs M' o → Live M → ∀ B : Base, Sta K B F As M (start N vs) (ent N.length rs) H → (∀ a, B.P a → a ∈ B.A0) → B.A0.length = M.length →
      (match o with
        | .ret d => (∀ v F' As' M'' σ' E' H', Sta K B F' As' M'' σ' E' H' → M''.take M.length = M' → R K F' d v → Q v H')
        | .new mc => (∀ v k F' As' M'' σ' E' H', Sta K B F' As' M'' σ' E' H' → M''.take M.length = M' → M.length ≤ k → M''[k]? = some mc → mc ≠ .gone → RV K F' As' (.cel k) v → Q v H')
        | .exc C fs => (∀ dd ws F' As' M'' σ' E' H', Sta K B F' As' M'' σ' E' H' → M''.take M.length = M' → H' dd = none → PK (R K F') fs ws → X (.ref C) (some dd) (upd H' dd (.xd ws)))
        | .grow ms r => (∀ v F' As' M'' σ' E' H', Sta K B F' As' M'' σ' E' H' → M''.take M.length = M' → M''.drop M.length = ms → RV K F' As' r v → Q v H')) →
      t { nx := fun _ H' => Q .non H', rt := Q } (start N vs) H) : t { nx := fun _ H' => Q .non H', rt := Q } (start N vs) H := by
  obtain ⟨F, As, M, rs, M', o, S, hL, hΦ, post⟩ := h
  have len : ∀ {F' As' M'' H' σ' E'}, Sta K (Sta.self F H As) F' As' M'' σ' E' H' → As <+: As' → M''.take M.length = M' → Fin K F H As M' F' H' As' M'' := fun {F' As' M'' H' σ' E'} S' p c => by
    have l1 := S.len
    refine ⟨⟨_, _, S'⟩, p, by rw [l1]; exact c, ?_⟩
    rw [← c, List.length_take, l1]
    have l2 := S'.len
    obtain ⟨t, ht⟩ := p
    have : As'.length = As.length + t.length := by rw [← ht, List.length_append]
    omega
  refine body F As M rs M' o hΦ hL (Sta.self F H As) (S.enter N) (fun a h => h) S.len ?_
  cases o with
  | ret d => exact fun v F' As' M'' σ' E' H' S' c rv => post v F' As' M'' H' (len S' S'.pA c) rv
  | new mc => exact fun v k F' As' M'' σ' E' H' S' c hk h1 h2 rv => post v k F' As' M'' H' (len S' S'.pA c) (by rw [S.len]; exact hk) h1 h2 rv
  | exc C fs => exact fun dd ws F' As' M'' σ' E' H' S' c h1 h2 => post dd ws F' As' M'' H' (len S' S'.pA c) h1 h2
  | grow ms r => exact fun v F' As' M'' σ' E' H' S' c h1 rv => post v F' As' M'' H' (len S' S'.pA c) (by rw [S.len]; exact h1) rv
theorem FSp.len {vs : List V} {H : Hp} {Q : VK} {X : XK} {n : Nat} (h : FSp K Φ vs H Q X) (hn : ∀ M rs M' o, Φ M rs M' o → rs.length = n) : vs.length = n := by
  obtain ⟨F, As, M, rs, M', o, S, hL, hΦ, _⟩ := h
  have := S.slots.1
  simp at this
  rw [← this]
  exact hn _ _ _ _ hΦ
end
end DL
set_option Elab.async false
set_option linter.all false
set_option maxRecDepth 100000
set_option maxHeartbeats 2000000
/-! DL, sixth part: statements and loops. -/
namespace DL
open PySem L2
open Evl (Ex)
/-- the item of a list that is read ahead of a store to its place -/
theorem pget_list {X : Cx} : PGet X (rIxL X.K) := by
  intro pns sh sl Hh xv yv vv uu Qw Iv rx ry hw
  obtain ⟨aa, ws, ii, zz, rfl, rfl, hsq, hat, qq⟩ := hw
  cases rx
  obtain ⟨tk, rfl⟩ := ry
  obtain ⟨its, rvs, hpl, hsz⟩ := Iv.list hsq
  obtain ⟨jj, g1, g2, g3, g4, g5⟩ := atI_get hat
  obtain ⟨w2, ew, rw2⟩ := rvs.get g2
  have hlen := rvs.length
  have hline := line63
  have done : EP X pns sl Qw w2 sh := ⟨zz, Hh, Iv, rw2, qq⟩
  by_cases h0 : 0 ≤ ii
  · have hj : ii.toNat = jj := by
      rw [seqIndex_of h0 g5] at g1
      exact Option.some.inj g1
    exact wpAny_getItem_list hpl.isList h0 (by omega) (by rw [hj]; simpa using ew) done
  · have hj : (ii + (its.toArray.size : Int)).toNat = jj := by
      rw [seqIndex_neg (by omega) g4] at g1
      rw [List.size_toArray, ← hlen]
      exact Option.some.inj g1
    exact wpAny_getItem_list_neg hpl.isList (by omega) (by rw [List.size_toArray] <;> omega) (by omega) (by rw [hj]; simpa using ew) done
section
variable {K : PySem.W.Frag} {B : Base} {F F' F1 H H' H1 : Hp} {As As' As1 : List Addr} {M M0 M0' M1 M2 M3 M' M'' : List MC} {σ σ' : St} {E E' : List (Option Rv)} {ta tb te tx : TE} {x y z r : Rv} {op : R2} {xs rs rs0 : List Rv} {b : Bool} {D : Ends} {t u t1 t2 : TS} {d : DL.D}
/-- what is wanted behind a state -/
abbrev Nxt (K : PySem.W.Frag) (B : Base) (M : List MC) (E : List (Option Rv)) (Q : St → Hp → Prop) : Prop := ∀ F As σ H, Sta K B F As M σ E H → Q σ H
theorem s_set {i : Nat} (S : Sta K B F As M σ E H) (h : EvD K te M E M' r) (k : Nxt K B M' (E.set i (some r)) D.nx) : tAsg te (gName i) D σ H :=
  h B F As σ H S _ fun v F1 As1 H1 S1 _ _ rv => k F1 As1 _ H1 (S1.set rv)
theorem q_set {i : Nat} (S : Sta K B F As M σ E H) (h : EvD K te M E M' r) (k : Nxt K B M' (E.set i (some r)) (u D)) : tSeq (tAsg te (gName i)) u D σ H := s_set (D := { D with nx := u D }) S h k
theorem s_tup2 {i j : Nat} {d1 d2 : DL.D} (S : Sta K B F As M σ E H) (h : EvD K te M E M' (.dat (.tup [d1, d2]))) (k : Nxt K B M' ((E.set i (some (.dat d1))).set j (some (.dat d2))) D.nx) : tAsg te (gTup K 2 (gCons (gName i) (gCons (gName j) gNil))) D σ H :=
  h B F As σ H S _ fun v F1 As1 H1 S1 _ _ rv => by
    obtain ⟨a, vs, rfl, ha, pa⟩ := R.tup_inv rv
    obtain ⟨v1, ws, rfl, r1, pa⟩ := pa.inv_cons
    obtain ⟨v2, ws, rfl, r2, pa⟩ := pa.inv_cons
    have := pa.inv_nil; subst this
    exact ⟨a, [v1, v2], rfl, SqT.of (S1.ex _ _ ha), rfl, v1, [v2], rfl, v2, [], rfl, rfl, k _ _ _ _ ((S1.set (r := .dat d1) r1).set (r := .dat d2) r2)⟩
theorem q_tup2 {i j : Nat} {d1 d2 : DL.D} (S : Sta K B F As M σ E H) (h : EvD K te M E M' (.dat (.tup [d1, d2]))) (k : Nxt K B M' ((E.set i (some (.dat d1))).set j (some (.dat d2))) (u D)) : tSeq (tAsg te (gTup K 2 (gCons (gName i) (gCons (gName j) gNil)))) u D σ H := s_tup2 (D := { D with nx := u D }) S h k
/-- xs[i] = e, xs a cell -/
theorem s_setL {k : Nat} {ds : List DL.D} {i : Int} (S : Sta K B F As M σ E H) (h : EvD K te M E M1 (.dat d)) (ho : EvD K ta M1 E M2 (.cel k)) (hi : EvD K tb M2 E M3 (rint i)) (hk : M3[k]? = some (.lst ds)) (h0 : 0 ≤ i) (h1 : i < ds.length)
    (kk : Nxt K B (M3.set k (.lst (ds.set i.toNat d))) E D.nx) : tAsg te (gSub ta tb rSetL) D σ H :=
  h B F As σ H S _ fun v F1 As1 H1 S1 e1 p1 r1 => ho B F1 As1 σ H1 S1 _ fun v2 F2 As2 H2 S2 e2 p2 r2 => hi B F2 As2 σ H2 S2 _ fun v3 F3 As3 H3 S3 e3 p3 r3 => by
    obtain ⟨a, hA, rfl⟩ := r2
    have hA := prefix_get p3 hA
    cases R.int_inv r3
    obtain ⟨_, o, ho, vs, rfl, pa⟩ := S3.cell k a _ hA hk (by intro z; cases z)
    have rd : R K F3 d v := R.mono r1 (e2.trans e3)
    refine ⟨a, vs, i, i.toNat, rfl, rfl, ho, ?_, kk _ _ _ _ (S3.chg hA hk (by intro z; cases z) ⟨_, rfl, pa.set rd⟩)⟩
    unfold ixN
    rw [if_pos h0, if_pos (by rw [← pa.1]; omega)]
theorem q_setL {k : Nat} {ds : List DL.D} {i : Int} (S : Sta K B F As M σ E H) (h : EvD K te M E M1 (.dat d)) (ho : EvD K ta M1 E M2 (.cel k)) (hi : EvD K tb M2 E M3 (rint i)) (hk : M3[k]? = some (.lst ds)) (h0 : 0 ≤ i) (h1 : i < ds.length)
    (kk : Nxt K B (M3.set k (.lst (ds.set i.toNat d))) E (u D)) : tSeq (tAsg te (gSub ta tb rSetL)) u D σ H := s_setL (D := { D with nx := u D }) S h ho hi hk h0 h1 kk
theorem s_setLI {k : Nat} {ns : List Int} {i e : Int} (S : Sta K B F As M σ E H) (h : EvD K te M E M1 (rint e)) (ho : EvD K ta M1 E M2 (.cel k)) (hi : EvD K tb M2 E M3 (rint i)) (hk : M3[k]? = some (.lst (ns.map DL.D.int))) (h0 : 0 ≤ i) (h1 : i < ns.length)
    (kk : Nxt K B (M3.set k (.lst ((ns.set i.toNat e).map DL.D.int))) E D.nx) : tAsg te (gSub ta tb rSetL) D σ H :=
  s_setL S h ho hi hk h0 (by rw [List.length_map]; exact h1) (by rw [List.map_set] at kk; exact kk)
theorem q_setLI {k : Nat} {ns : List Int} {i e : Int} (S : Sta K B F As M σ E H) (h : EvD K te M E M1 (rint e)) (ho : EvD K ta M1 E M2 (.cel k)) (hi : EvD K tb M2 E M3 (rint i)) (hk : M3[k]? = some (.lst (ns.map DL.D.int))) (h0 : 0 ≤ i) (h1 : i < ns.length)
    (kk : Nxt K B (M3.set k (.lst ((ns.set i.toNat e).map DL.D.int))) E (u D)) : tSeq (tAsg te (gSub ta tb rSetL)) u D σ H := s_setLI (D := { D with nx := u D }) S h ho hi hk h0 h1 kk
/-- xs[i] op= e, xs a cell of numbers -/
theorem s_augS {f : Int → Int → Int} {k : Nat} {ns : List Int} {i e : Int} (S : Sta K B F As M σ E H) (ho : EvD K ta M E M1 (.cel k)) (hi : EvD K tb M1 E M2 (rint i)) (he : EvD K te M2 E M3 (rint e)) (hk2 : M2[k]? = some (.lst (ns.map DL.D.int))) (hk3 : M3[k]? = some (.lst (ns.map DL.D.int))) (h0 : 0 ≤ i) (h1 : i < ns.length)
    (kk : Nxt K B (M3.set k (.lst ((ns.set i.toNat (f (gI ns i) e)).map DL.D.int))) E D.nx) : tAugS ta tb te (rIxL K) (ipI f) rSetL D σ H :=
  ho B F As σ H S _ fun v F1 As1 H1 S1 e1 p1 r1 => hi B F1 As1 σ H1 S1 _ fun v2 F2 As2 H2 S2 e2 p2 r2 =>
    od_ixI (.inr ⟨k, rfl, hk2⟩) h0 h1 B F2 As2 σ E H2 v v2 S2 (r1.m e2 p2) r2 _ fun w F2' As2' H2' S2' e2' p2' r2' => he B F2' As2' σ H2' S2' _ fun v3 F3 As3 H3 S3 e3 p3 r3 => by
    cases R.int_inv r2'
    cases R.int_inv r3
    refine ⟨_, _, rfl, rfl, ?_⟩
    obtain ⟨a, hA, rfl⟩ := r1
    have hA := prefix_get (p2.trans (p2'.trans p3)) hA
    cases R.int_inv r2
    obtain ⟨_, o, ho, vs, rfl, pa⟩ := S3.cell k a _ hA hk3 (by intro z; cases z)
    refine ⟨a, vs, i, i.toNat, rfl, rfl, ho, ?_, kk _ _ _ _ (S3.chg hA hk3 (by intro z; cases z) ⟨_, rfl, ?_⟩)⟩
    · unfold ixN
      have := pa.1
      rw [List.length_map] at this
      rw [if_pos h0, if_pos (by omega)]
    · rw [List.map_set]
      exact pa.set (.int _)
theorem q_augS {f : Int → Int → Int} {k : Nat} {ns : List Int} {i e : Int} (S : Sta K B F As M σ E H) (ho : EvD K ta M E M1 (.cel k)) (hi : EvD K tb M1 E M2 (rint i)) (he : EvD K te M2 E M3 (rint e)) (hk2 : M2[k]? = some (.lst (ns.map DL.D.int))) (hk3 : M3[k]? = some (.lst (ns.map DL.D.int))) (h0 : 0 ≤ i) (h1 : i < ns.length)
    (kk : Nxt K B (M3.set k (.lst ((ns.set i.toNat (f (gI ns i) e)).map DL.D.int))) E (u D)) : tSeq (tAugS ta tb te (rIxL K) (ipI f) rSetL) u D σ H := s_augS (D := { D with nx := u D }) S ho hi he hk2 hk3 h0 h1 kk
theorem s_aug {i : Nat} {f : Int → Int → Int} {a c : Int} (S : Sta K B F As M σ E H) (hx : E[i]? = some (some (rint a))) (h : EvD K te M E M' (rint c)) (k : Nxt K B M' (E.set i (some (rint (f a c)))) D.nx) : tAug i te (ipI f) D σ H := by
  obtain ⟨v, hv, rv⟩ := S.slots.2 i _ hx
  cases R.int_inv rv
  exact ⟨_, hv, h B F As σ H S _ fun w F1 As1 H1 S1 _ _ rw_ => by
    cases R.int_inv rw_
    exact ⟨a, c, rfl, rfl, k _ _ _ _ (S1.set (r := rint (f a c)) (.int _))⟩⟩
theorem q_aug {i : Nat} {f : Int → Int → Int} {a c : Int} (S : Sta K B F As M σ E H) (hx : E[i]? = some (some (rint a))) (h : EvD K te M E M' (rint c)) (k : Nxt K B M' (E.set i (some (rint (f a c)))) (u D)) : tSeq (tAug i te (ipI f)) u D σ H := s_aug (D := { D with nx := u D }) S hx h k
/-- d[k] = e, d a cell -/
theorem s_dput {j : Nat} {kvs : List (Key × DL.D)} {kd : DL.D} {kk : Key} (S : Sta K B F As M σ E H) (h : EvD K te M E M1 (.dat d)) (ho : EvD K ta M1 E M2 (.cel j)) (hi : EvD K tb M2 E M3 (.dat kd)) (hkk : kd.key = some kk) (hk : M3[j]? = some (.dct kvs)) (hl : kvs.length < 16777216)
    (k : Nxt K B (M3.set j (.dct (putG kvs kk d))) E D.nx) : sDPut ta tb te D σ H :=
  h B F As σ H S _ fun v F1 As1 H1 S1 e1 p1 r1 => ho B F1 As1 σ H1 S1 _ fun v2 F2 As2 H2 S2 e2 p2 r2 => hi B F2 As2 σ H2 S2 _ fun v3 F3 As3 H3 S3 e3 p3 r3 => by
    obtain ⟨a, hA, rfl⟩ := r2
    have hA := prefix_get p3 hA
    have ek := R.key r3 hkk
    obtain ⟨_, o, ho, ws, rfl, pa⟩ := S3.cell j a _ hA hk (by intro z; cases z)
    have rd : R K F3 d v := R.mono r1 (e2.trans e3)
    exact ⟨a, _, rfl, .inl ⟨ws, kk, ho, ek, szlt (by rw [← pa.1]; exact hl), rfl⟩, k _ _ _ _ (S3.chg hA hk (by intro z; cases z) ⟨_, rfl, PK.put pa rd⟩)⟩
theorem q_dput {j : Nat} {kvs : List (Key × DL.D)} {kd : DL.D} {kk : Key} (S : Sta K B F As M σ E H) (h : EvD K te M E M1 (.dat d)) (ho : EvD K ta M1 E M2 (.cel j)) (hi : EvD K tb M2 E M3 (.dat kd)) (hkk : kd.key = some kk) (hk : M3[j]? = some (.dct kvs)) (hl : kvs.length < 16777216)
    (k : Nxt K B (M3.set j (.dct (putG kvs kk d))) E (u D)) : tSeq (sDPut ta tb te) u D σ H := s_dput (D := { D with nx := u D }) S h ho hi hkk hk hl k
/-- xs.append(e), xs a cell -/
theorem s_app {k : Nat} {ds : List DL.D} (S : Sta K B F As M σ E H) (ho : EvD K ta M E M1 (.cel k)) (h : EvD K te M1 E M2 (.dat d)) (hk1 : M1[k]? = some (.lst ds)) (hk : M2[k]? = some (.lst ds)) (hl : ds.length < 16777216)
    (kk : Nxt K B (M2.set k (.lst (ds ++ [d]))) E D.nx) : tDrop (tBM K "list" rAppend ta (tCons te tNil)) D σ H :=
  ho B F As σ H S _ fun v F1 As1 H1 S1 e1 p1 r1 => by
    obtain ⟨a, hA, rfl⟩ := r1
    obtain ⟨_, o, ho1, vs1, rfl, pa1⟩ := S1.cell k a _ hA hk1 (by intro z; cases z)
    refine ⟨.inl ⟨rfl, _, SqL.of ho1⟩, h B F1 As1 σ H1 S1 _ fun v2 F2 As2 H2 S2 e2 p2 r2 => ?_⟩
    have hA := prefix_get p2 hA
    obtain ⟨_, o, ho, vs, rfl, pa⟩ := S2.cell k a _ hA hk (by intro z; cases z)
    exact ⟨a, vs, v2, rfl, rfl, ho, szlt (by rw [← pa.1]; exact hl), kk _ _ _ _ (S2.chg hA hk (by intro z; cases z) ⟨_, rfl, pa.append (P2.single r2)⟩)⟩
theorem q_app {k : Nat} {ds : List DL.D} (S : Sta K B F As M σ E H) (ho : EvD K ta M E M1 (.cel k)) (h : EvD K te M1 E M2 (.dat d)) (hk1 : M1[k]? = some (.lst ds)) (hk : M2[k]? = some (.lst ds)) (hl : ds.length < 16777216)
    (kk : Nxt K B (M2.set k (.lst (ds ++ [d]))) E (u D)) : tSeq (tDrop (tBM K "list" rAppend ta (tCons te tNil))) u D σ H := s_app (D := { D with nx := u D }) S ho h hk1 hk hl kk
theorem s_appI {k : Nat} {ns : List Int} {e : Int} (S : Sta K B F As M σ E H) (ho : EvD K ta M E M1 (.cel k)) (h : EvD K te M1 E M2 (rint e)) (hk1 : M1[k]? = some (.lst (ns.map DL.D.int))) (hk : M2[k]? = some (.lst (ns.map DL.D.int))) (hl : ns.length < 16777216)
    (kk : Nxt K B (M2.set k (.lst ((ns ++ [e]).map DL.D.int))) E D.nx) : tDrop (tBM K "list" rAppend ta (tCons te tNil)) D σ H :=
  s_app S ho h hk1 hk (by rw [List.length_map]; exact hl) (by rw [List.map_append] at kk; exact kk)
theorem q_appI {k : Nat} {ns : List Int} {e : Int} (S : Sta K B F As M σ E H) (ho : EvD K ta M E M1 (.cel k)) (h : EvD K te M1 E M2 (rint e)) (hk1 : M1[k]? = some (.lst (ns.map DL.D.int))) (hk : M2[k]? = some (.lst (ns.map DL.D.int))) (hl : ns.length < 16777216)
    (kk : Nxt K B (M2.set k (.lst ((ns ++ [e]).map DL.D.int))) E (u D)) : tSeq (tDrop (tBM K "list" rAppend ta (tCons te tNil))) u D σ H := s_appI (D := { D with nx := u D }) S ho h hk1 hk hl kk
theorem s_drop (S : Sta K B F As M σ E H) (h : EvD K te M E M' r) (k : Nxt K B M' E D.nx) : tDrop te D σ H := h B F As σ H S _ fun v F1 As1 H1 S1 _ _ _ => k _ _ _ _ S1
theorem q_drop (S : Sta K B F As M σ E H) (h : EvD K te M E M' r) (k : Nxt K B M' E (u D)) : tSeq (tDrop te) u D σ H := s_drop (D := { D with nx := u D }) S h k
theorem s_if {c : TT} (S : Sta K B F As M σ E H) (h : EvT K c M E M' b) (h1 : b = true → Nxt K B M' E (t1 D)) (h2 : b = false → Nxt K B M' E (t2 D)) : tIfS c t1 t2 D σ H :=
  h B F As σ H S _ fun F1 As1 H1 S1 _ _ => by
    cases b with
    | true => exact h1 rfl _ _ _ _ S1
    | false => exact h2 rfl _ _ _ _ S1
theorem q_if {c : TT} (S : Sta K B F As M σ E H) (h : EvT K c M E M' b) (h1 : b = true → Nxt K B M' E (t1 { D with nx := u D })) (h2 : b = false → Nxt K B M' E (t2 { D with nx := u D })) : tSeq (tIfS c t1 t2) u D σ H := s_if (D := { D with nx := u D }) S h h1 h2
theorem s_next (S : Sta K B F As M σ E H) (k : Nxt K B M E D.nx) : tNext D σ H := k _ _ _ _ S
theorem q_next (k : u D σ H) : tSeq tNext u D σ H := k
theorem s_ret (S : Sta K B F As M σ E H) (h : EvD K te M E M' r) (k : ∀ v F' As' σ' H', Sta K B F' As' M' σ' E H' → RV K F' As' r v → D.rt v H') : tRet te D σ H :=
  h B F As σ H S _ fun v F1 As1 H1 S1 _ _ rv => k v F1 As1 _ H1 S1 rv
theorem q_ret (S : Sta K B F As M σ E H) (h : EvD K te M E M' r) (k : ∀ v F' As' σ' H', Sta K B F' As' M' σ' E H' → RV K F' As' r v → D.rt v H') : tSeq (tRet te) u D σ H := s_ret (D := { D with nx := u D }) S h k
/-! ### loops: P, a word of the turn, the cells and the slots -/
def NxP (K : PySem.W.Frag) (B : Base) (P : List MC → List (Option Rv) → Prop) : St → Hp → Prop := fun σ H => ∃ F As M E, Sta K B F As M σ E H ∧ P M E
theorem s_end {P : List MC → List (Option Rv) → Prop} (S : Sta K B F As M σ E H) (hP : P M E') (hE : Ele E' E) : NxP K B P σ H := ⟨F, As, M, E', S.weak hE, hP⟩
theorem s_forR1 {t : TA} {j : Nat} {n : Int} (S : Sta K B F As M σ E H) (ha : EvA K t M E M1 [rint n]) (hn : -16777216 ≤ n ∧ n ≤ 16777216) (P : Nat → List MC → List (Option Rv) → Prop) (h0 : P 0 M1 E)
    (hb : ∀ (i : Nat) M E, (i : Int) < n → P i M E → Nxt K B M (E.set j (some (rint (i : Int)))) (u { D with nx := NxP K B (P (i + 1)), ct := NxP K B (P (i + 1)), bk := D.nx }))
    (hd : ∀ M E, P n.toNat M E → Nxt K B M E D.nx) : tFor (iRng1 t) (gName j) u D σ H :=
  ha B F As σ H S _ fun vs F1 As1 H1 S1 _ _ r1 => by
    obtain ⟨w, rfl, hw⟩ := r1.one
    cases R.int_inv hw
    refine ⟨n, rfl, by omega, by omega, for_range (lo := 0) (n := n.toNat) (fun i => NxP K B (P i)) ⟨F1, As1, M1, E, S1, h0⟩ (fun i σ' H' hi ⟨F2, As2, M2, E2, S2, hP⟩ => ?_) (fun σ' H' ⟨F2, As2, M2, E2, S2, hP⟩ => hd M2 E2 hP _ _ _ _ S2)⟩
    have e0 : (0 : Int) + (i : Int) = (i : Int) := Int.zero_add _
    rw [e0]
    exact hb i M2 E2 (by omega) hP _ _ _ _ (S2.set (r := rint (i : Int)) (.int _))
theorem q_forR1 {t : TA} {j : Nat} {n : Int} {u' : TS} (S : Sta K B F As M σ E H) (ha : EvA K t M E M1 [rint n]) (hn : -16777216 ≤ n ∧ n ≤ 16777216) (P : Nat → List MC → List (Option Rv) → Prop) (h0 : P 0 M1 E)
    (hb : ∀ (i : Nat) M E, (i : Int) < n → P i M E → Nxt K B M (E.set j (some (rint (i : Int)))) (u { D with nx := NxP K B (P (i + 1)), ct := NxP K B (P (i + 1)), bk := u' D }))
    (hd : ∀ M E, P n.toNat M E → Nxt K B M E (u' D)) : tSeq (tFor (iRng1 t) (gName j) u) u' D σ H := s_forR1 (D := { D with nx := u' D }) S ha hn P h0 hb hd
theorem s_forR2 {t : TA} {j : Nat} {a n : Int} (S : Sta K B F As M σ E H) (ha : EvA K t M E M1 [rint a, rint n]) (hn : -16777216 ≤ n ∧ n ≤ 16777216 ∧ -16777216 ≤ a ∧ a ≤ 16777216) (P : Nat → List MC → List (Option Rv) → Prop) (h0 : P 0 M1 E)
    (hb : ∀ (i : Nat) M E, a + (i : Int) < n → P i M E → Nxt K B M (E.set j (some (rint (a + (i : Int))))) (u { D with nx := NxP K B (P (i + 1)), ct := NxP K B (P (i + 1)), bk := D.nx }))
    (hd : ∀ M E, P (n - a).toNat M E → Nxt K B M E D.nx) : tFor (iRng2 t) (gName j) u D σ H :=
  ha B F As σ H S _ fun vs F1 As1 H1 S1 _ _ r1 => by
    obtain ⟨w, w2, rfl, hw, hw2⟩ := r1.two
    cases R.int_inv hw; cases R.int_inv hw2
    exact ⟨a, n, rfl, ⟨by omega, by omega, by omega, by omega⟩, for_range (lo := a) (n := (n - a).toNat) (fun i => NxP K B (P i)) ⟨F1, As1, M1, E, S1, h0⟩ (fun i σ' H' hi ⟨F2, As2, M2, E2, S2, hP⟩ => hb i M2 E2 (by omega) hP _ _ _ _ (S2.set (r := rint (a + (i : Int))) (.int _))) (fun σ' H' ⟨F2, As2, M2, E2, S2, hP⟩ => hd M2 E2 hP _ _ _ _ S2)⟩
theorem q_forR2 {t : TA} {j : Nat} {a n : Int} {u' : TS} (S : Sta K B F As M σ E H) (ha : EvA K t M E M1 [rint a, rint n]) (hn : -16777216 ≤ n ∧ n ≤ 16777216 ∧ -16777216 ≤ a ∧ a ≤ 16777216) (P : Nat → List MC → List (Option Rv) → Prop) (h0 : P 0 M1 E)
    (hb : ∀ (i : Nat) M E, a + (i : Int) < n → P i M E → Nxt K B M (E.set j (some (rint (a + (i : Int))))) (u { D with nx := NxP K B (P (i + 1)), ct := NxP K B (P (i + 1)), bk := u' D }))
    (hd : ∀ M E, P (n - a).toNat M E → Nxt K B M E (u' D)) : tSeq (tFor (iRng2 t) (gName j) u) u' D σ H := s_forR2 (D := { D with nx := u' D }) S ha hn P h0 hb hd
/-- the base of a loop that reads what was frozen at its start -/
def Base.up (B : Base) (F : Hp) : Base := { B with F0 := F }
theorem Sta.toUp (S : Sta K B F As M σ E H) : Sta K (B.up F) F As M σ E H := { S with bF := Ex.refl F, bN := fun a o h h0 => h0, bH := S.bH, bA := S.bA, bK := S.bK, pA := S.pA }
theorem Sta.ofUp (S : Sta K B F1 As1 M1 σ E H1) (S' : Sta K (B.up F1) F As M σ' E' H) : Sta K B F As M σ' E' H := { S' with bF := S.bF.trans S'.bF, bN := fun a o h h0 => S'.bN a o h (S.bN a o h h0), bH := S'.bH, bA := S'.bA, bK := S'.bK, pA := S'.pA }
/-- what holds of the one base holds of the other -/
abbrev Cv (K : PySem.W.Frag) (B' B : Base) : Prop := ∀ {F As M σ E H}, Sta K B' F As M σ E H → Sta K B F As M σ E H
/-- for x in xs, xs data: g stores the item -/
theorem s_forG {tl : TE} {g : TG} {st : List (Option Rv) → DL.D → List (Option Rv) → Prop} {ds : List DL.D} (S : Sta K B F As M σ E H) (ha : EvD K tl M E M1 (.dat (.lst ds)))
    (hg : ∀ {B F As M σ E H d v} {Q : St → Hp → Prop}, d ∈ ds → Sta K B F As M σ E H → R K F d v → (∀ σ' E', st E d E' → Sta K B F As M σ' E' H → Q σ' H) → g v σ H Q)
    (P : Nat → List MC → List (Option Rv) → Prop) (h0 : P 0 M1 E)
    (hb : ∀ (B' : Base), Cv K B' B → ∀ (i : Nat) (d : DL.D) M E E', ds[i]? = some d → P i M E → st E d E' → Nxt K B' M E' (u { D with nx := NxP K B' (P (i + 1)), ct := NxP K B' (P (i + 1)), bk := D.nx }))
    (hd : ∀ M E, P ds.length M E → Nxt K B M E D.nx) : tFor (iList K tl) g u D σ H :=
  ha B F As σ H S _ fun vs F1 As1 H1 S1 _ _ r1 => by
    obtain ⟨a, ws, rfl, hA, pa⟩ := R.lst_inv r1
    refine ⟨a, rfl, ⟨ws, SqL.of (S1.ex _ _ hA)⟩, for_list (K := K) (a := a) (xs := ws) (fun i => NxP K (B.up F1) (P i)) ⟨F1, As1, M1, E, S1.toUp, h0⟩ (fun i σ' H' _ ⟨F2, As2, M2, E2, S2, hP⟩ => SqL.of (S2.ex _ _ (S2.bF _ _ hA))) (fun i x σ' H' hi ⟨F2, As2, M2, E2, S2, hP⟩ => ?_) (fun σ' H' ⟨F2, As2, M2, E2, S2, hP⟩ => hd M2 E2 (by rw [pa.1]; exact hP) _ _ _ _ (S1.ofUp S2))⟩
    obtain ⟨d, hd, rd⟩ := pa.flip.get hi
    exact hg (List.mem_of_getElem? hd) S2 (R.mono rd S2.bF) fun σ3 E3 hst S3 => hb (B.up F1) (fun S => S1.ofUp S) i d M2 E2 E3 hd hP hst _ _ _ _ S3
theorem s_forL {tl : TE} {j : Nat} {ds : List DL.D} (S : Sta K B F As M σ E H) (ha : EvD K tl M E M1 (.dat (.lst ds))) (P : Nat → List MC → List (Option Rv) → Prop) (h0 : P 0 M1 E)
    (hb : ∀ (B' : Base), Cv K B' B → ∀ (i : Nat) (d : DL.D) M E, ds[i]? = some d → P i M E → Nxt K B' M (E.set j (some (.dat d))) (u { D with nx := NxP K B' (P (i + 1)), ct := NxP K B' (P (i + 1)), bk := D.nx }))
    (hd : ∀ M E, P ds.length M E → Nxt K B M E D.nx) : tFor (iList K tl) (gName j) u D σ H :=
  s_forG (st := fun E d E' => E' = E.set j (some (.dat d))) S ha (fun {B F As M σ E H d v Q} hm S rd k => k _ _ rfl (S.set (r := .dat d) rd)) P h0 (fun B' cv i d M E E' h1 h2 h3 => h3 ▸ hb B' cv i d M E h1 h2) hd
theorem q_forL {tl : TE} {j : Nat} {ds : List DL.D} {u' : TS} (S : Sta K B F As M σ E H) (ha : EvD K tl M E M1 (.dat (.lst ds))) (P : Nat → List MC → List (Option Rv) → Prop) (h0 : P 0 M1 E)
    (hb : ∀ (B' : Base), Cv K B' B → ∀ (i : Nat) (d : DL.D) M E, ds[i]? = some d → P i M E → Nxt K B' M (E.set j (some (.dat d))) (u { D with nx := NxP K B' (P (i + 1)), ct := NxP K B' (P (i + 1)), bk := u' D }))
    (hd : ∀ M E, P ds.length M E → Nxt K B M E (u' D)) : tSeq (tFor (iList K tl) (gName j) u) u' D σ H := s_forL (D := { D with nx := u' D }) S ha P h0 hb hd
/-! ### a cell frozen -/
def sub1 (k : Nat) (d : DL.D) : Option Rv → Option Rv
  | some (.cel j) => if j = k then some (.dat d) else some (.cel j)
  | x => x
def MC.toD : MC → Option DL.D
  | .lst ds => some (.lst ds)
  | .dct kvs => some (.dct kvs)
  | .ins C fs => some (.ins C fs)
  | .gone => none
  | .deep _ => none
theorem Sta.freeze {k : Nat} {mc : MC} {a : Addr} (S : Sta K B F As M σ E H) (hB : ∀ a, B.P a → a ∈ B.A0) (ha : As[k]? = some a) (hk : M[k]? = some mc) (hd : mc.toD = some d) (h0 : B.A0.length ≤ k) :
    ∃ F', Sta K B F' As (M.set k .gone) σ (E.map (sub1 k d)) H ∧ R K F' d (.ref a) := by
  have hg : mc ≠ .gone := by rintro rfl; cases hd
  obtain ⟨g1, o, g2, g3⟩ := S.cell k a mc ha hk hg
  have hP : B.H0 a = none := by
    rcases S.bA a (List.mem_of_getElem? ha) with q | q
    · exfalso
      have hm := hB a q
      obtain ⟨j, hj, e⟩ := List.mem_iff_getElem.mp hm
      have e2 : As[j]? = some a := prefix_get S.pA (by rw [List.getElem?_eq_getElem hj, e])
      have := S.uniq ha e2
      omega
    · exact q
  obtain ⟨S2, e2⟩ := S.frz ha hk hg g2 hP
  have rd : R K (upd F a o) d (.ref a) := by
    cases mc with
    | lst ds => cases hd; obtain ⟨xs, rfl, p⟩ := g3; exact R.lst' upd_same (p.imp fun _ _ z => z.mono e2)
    | dct kvs => cases hd; obtain ⟨xs, rfl, p⟩ := g3; exact R.dct' upd_same (p.imp fun _ _ z => ⟨z.1, z.2.mono e2⟩)
    | ins C fs => cases hd; obtain ⟨dx, xs, rfl, p⟩ := g3; exact R.ins' upd_same (p.imp fun _ _ z => ⟨z.1, z.2.mono e2⟩)
    | gone => cases hd
    | deep x => cases hd
  refine ⟨upd F a o, { S2 with slots := ⟨by rw [List.length_map]; exact S2.slots.1, fun i r h => ?_⟩ }, rd⟩
  rw [List.getElem?_map] at h
  cases c : E[i]? with
  | none => rw [c] at h; cases h
  | some x =>
    rw [c] at h
    have h : sub1 k d x = some r := Option.some.inj h
    cases x with
    | none => cases h
    | some r0 =>
      obtain ⟨v, hv, rv⟩ := S2.slots.2 i r0 c
      refine ⟨v, hv, ?_⟩
      cases r0 with
      | dat d0 => cases h; exact rv
      | cel j =>
        have h : (if j = k then some (Rv.dat d) else some (Rv.cel j)) = some r := h
        by_cases e : j = k
        · subst e
          rw [if_pos rfl] at h
          cases h
          obtain ⟨a', ha', rfl⟩ := rv
          rw [ha] at ha'; cases ha'
          exact rd
        · rw [if_neg e] at h; cases h; exact rv
theorem s_frz {k : Nat} {mc : MC} {t : TS} (S : Sta K B F As M σ E H) (hB : ∀ a, B.P a → a ∈ B.A0) (hk : M[k]? = some mc) (hd : mc.toD = some d) (h0 : B.A0.length ≤ k) (kk : Nxt K B (M.set k .gone) (E.map (sub1 k d)) (t D)) : t D σ H := by
  have hl : k < As.length := by rw [S.len]; exact (List.getElem?_eq_some_iff.mp hk).1
  obtain ⟨F', S2, _⟩ := S.freeze hB (List.getElem?_eq_getElem hl) hk hd h0
  exact kk _ _ _ _ S2
/-- return of a cell of the def's own, frozen -/
theorem s_retF {k : Nat} {mc : MC} (S : Sta K B F As M σ E H) (hB : ∀ a, B.P a → a ∈ B.A0) (h : EvD K te M E M' (.cel k)) (hk : M'[k]? = some mc) (hd : mc.toD = some d) (h0 : B.A0.length ≤ k)
    (kk : ∀ v F' As' σ' E' H', Sta K B F' As' (M'.set k .gone) σ' E' H' → R K F' d v → D.rt v H') : tRet te D σ H :=
  h B F As σ H S _ fun v F1 As1 H1 S1 _ _ rv => by
    obtain ⟨a, ha, rfl⟩ := rv
    obtain ⟨F', S2, rd⟩ := S1.freeze hB ha hk hd h0
    exact kk _ _ _ _ _ _ S2 rd
end
end DL
set_option Elab.async false
set_option linter.all false
set_option maxRecDepth 100000
set_option maxHeartbeats 4000000
/-! DL, seventh part: rules that the hand layer lacks: list(d.keys()), min and max of a list of data; equal data. -/
namespace DL
open PySem L2 PySem.Spec PyProof.Rows
open PySem.W (AlikeAll minD readsAll_len iter_listW cmpIn_lt moved_old dataLt keyToks keyToksAll argBest_fold)
open Evl (Ex)
section
variable {X : Cx} {e : Expr} {te : TE} {p apos cpos pos : Pos}
/-- the keys of a dict as a new list -/
def kKeys : V → Hp → VK → Prop := fun v Hh Qw => ∃ (dd : Addr) (ws : List (Key × V)), v = .ref dd ∧ Hh dd = some (.dK ws) ∧ ∀ q, Hh q = none → Qw (.ref q) (upd Hh q (.lst (ws.map fun z => kV z.1)))
def tListKeys (te : TE) : TE := fun σ Hh Qw => te σ Hh fun v H1 => kKeys v H1 Qw
theorem pe_listKeys (hcalm : X.calm = true) (hde : PE X e te) (hgl : Gl X "list") (hmg : X.mg "list" = none) (hbt : bootBuiltins "list" = some (.type "list")) (hba : attributeBase e "keys" X.env (eval e X.env) = eval e X.env := by rfl) (hli : (apos.endLine == cpos.line) = true := by rfl)
    (hst : starEach [.Call (.Attribute e "keys" apos) [] [] cpos] X.env = (false, eval (.Call (.Attribute e "keys" apos) [] [] cpos) X.env) :: starEach [] X.env := by rfl) :
    PE X (.Call (.Name "list" p) [.Call (.Attribute e "keys" apos) [] [] cpos] [] pos) (tListKeys te) := by
  refine ⟨fun pns sh sl Hh Qw Iv hw => ?_⟩
  refine wpAny_Call_Name_kw (ld_blt Iv hgl hmg hbt ?_)
  refine callWith_type1 ?_ hst rfl
  rw [hst]
  show wpAny _ _ (spliced ((false, eval (.Call (.Attribute e "keys" apos) [] [] cpos) X.env) :: backTo pos (starEach [] X.env))) _ _ sh
  refine Calls.spliced_cons ?_
  refine wpAny_Call_method (T := "dict") (id := "dict.keys") hba rfl hli F.plainAttrs_dict F.slot_dict_keys F.type_dict_keys (thn (hde.run pns sh sl Hh _ Iv hw) fun uu s1 ⟨vv, H1, I1, rv, dd, ws, ev, hd, qq⟩ => ?_)
  subst ev
  obtain rfl : uu = Value.ref dd := rv
  obtain ⟨hz, hlo, vs, kvw, hdo⟩ := I1.hok dd _ hd
  obtain ⟨ep, hat⟩ := hdo.dictAt
  have hlen : ws.length = vs.length := Paired.length kvw
  have I2 : Inv X pns sl H1 { s1 with heap := s1.heap.push { cls := .type "dict_keys", data := .fields #[.ref dd] } } := I1.kept (t' := s1.toks) fun b ob z => Heap.get?_push_of_some _ z
  refine ⟨hdo.typeIs, hdo.mapOf.noDict, ?_⟩
  show wpAny _ _ (callWith cpos (.builtin "dict.keys") [.ref dd] [] []) _ X.xe s1
  refine method_meetsIn F.slot_dict_keys F.entry_dict_keys rfl (PySem.evalArgs_none ⟨rfl, hdo.typeIs, F.args_dict_keys_1 _, _, PySem.W.kdl_meets_keys (mixKind X.prog X.w) dd hlo, ⟨vs, hdo⟩, ?_⟩)
  refine Calls.spliced_nil ?_
  refine PySem.W.kdl_call (PySem.W.kdl_keys (knd := mixKind X.prog X.w) (kvs := vs) (ep := ep) (d := dd)) (I1.ok.hd hcalm) ⟨⟨_, Heap.get?_push_size _ rfl, rfl, rfl⟩, hat.push _⟩ (by rw [← hlen]; exact hz) fun hh tk acc c hkeep hS hacc => ?_
  have new : H1 (s1.heap.push { cls := .type "dict_keys", data := .fields #[.ref dd] }).objs.size = none := I2.hok.fresh (Nat.le_refl _)
  refine ⟨.ref _, _, I2.laid (t' := tk) hkeep (Nat.le_refl _) (o := .lst (ws.map fun z => kV z.1)) ⟨by rw [List.length_map]; exact hz, acc.toList, c, ?_, ?_⟩, rfl, qq _ new⟩
  · have hal : acc.toList.length = acc.size := by simp
    refine vals_of_at (by rw [List.length_map, hal, hacc.1, hlen]) fun j y w2 g1 g2 => ?_
    obtain ⟨kk, y2, hky, his⟩ := hacc.2 j w2 (by rw [← Array.getElem?_toList]; exact g2)
    have g3 : (ws.map (·.1))[j]? = some kk := by rw [KV.keys kvw, List.getElem?_map, hky]; rfl
    rw [List.getElem?_map] at g1 g3
    cases g4 : ws[j]? with
    | none => rw [g4] at g3; cases g3
    | some z =>
      rw [g4] at g1 g3
      have g5 : z.1 = kk := Option.some.inj g3
      have g6 : kV z.1 = y := Option.some.inj g1
      rw [← g6, g5]
      exact keyIs_rel his
  · rw [Array.toArray_toList]; exact hS
/-- min of a list of data that can be compared with one another -/
def rMinD (K : PySem.W.Frag) : List V → Hp → VK → Prop := fun vs Hh Qw => ∃ (a : Addr) (xs : List V) (d : PyData) (ds : List PyData), vs = [.ref a] ∧ SqL K Hh a xs ∧ DpAll K Hh xs (d :: ds) ∧ AlikeAll (d :: ds) ∧ PyData.depthAll (d :: ds) ≤ 60 ∧
  ∀ (i : Nat) (y : V), xs[i]? = some y → (d :: ds).getD i .none = minD d ds → Qw y Hh
theorem cr_minP (hcalm : X.calm = true) (hun : X.A.units + 64 < cLine) : CallR X (.builtin "min") (rMinD X.K) := by
  intro pns sh sl Hh vs us Qw Iv rr hw
  obtain ⟨a, xs, d, ds, rfl, hsq, hdp, hal, hdep, qq⟩ := hw
  obtain ⟨its, rvs, hpl, _⟩ := Iv.list hsq
  rw [Vals.ref1 rr]
  obtain ⟨as, hra⟩ := Dp.readsAll Iv _ _ _ hdp rvs
  have hra2 : ReadsAll sh.heap its.toArray.toList (d :: ds) as := hra
  have hsz : its.toArray.size = ds.length + 1 := readsAll_len hra2
  refine call_min_walkH (iter_listW (A := X.A.in1) (Iv.ok.hd hcalm) hpl.isList fun s₂ es W st hfp hwr hk => ?_)
  refine ⟨_, _, _, _, _, _, _, sh.heap, _, rfl, W, st, hfp, by omega, hwr, hk, cmpIn_lt (A := X.A.in1) hra2 hal (by show X.A.units + 1 + _ < _; omega), fun v s' hv hm => ?_⟩
  obtain ⟨h', tk, rfl, hk'⟩ := moved_old es rfl hm
  have e1 : its.toArray.size - 1 = ds.length := by omega
  have e2 := (argBest_fold dataLt PyData.none d ds ds.length (Nat.le_refl _)).2
  rw [List.take_length] at e2
  rw [e1] at hv
  have hv2 : its[argBest (fun i j => dataLt ((d :: ds).getD i .none) ((d :: ds).getD j .none)) ds.length]? = some v := by simpa using hv
  have hx : ∃ y, xs[argBest (fun i j => dataLt ((d :: ds).getD i .none) ((d :: ds).getD j .none)) ds.length]? = some y ∧ RelV y v := by
    cases g : xs[argBest (fun i j => dataLt ((d :: ds).getD i .none) ((d :: ds).getD j .none)) ds.length]? with
    | none => rw [rvs.none_of g] at hv2; cases hv2
    | some y =>
      obtain ⟨u2, g2, g3⟩ := rvs.get g
      rw [g2] at hv2; cases hv2
      exact ⟨y, rfl, g3⟩
  obtain ⟨y, g1, g2⟩ := hx
  exact ⟨y, Hh, Iv.kept hk', g2, qq _ y g1 (by unfold minD; rw [← e2])⟩
end
/-! ### data as the library's data -/
inductive PyOf : D → PyData → Prop where
  | non : PyOf .non .none
  | bl (b : Bool) : PyOf (.bl b) (.bool b)
  | int (i : Int) : PyOf (.int i) (.int i)
  | str (s : Str) : PyOf (.str s) (.str s)
  | lst {ds : List D} {es : List PyData} (hl : ds.length = es.length) (h : ∀ (i : Nat) (d : D) (e : PyData), ds[i]? = some d → es[i]? = some e → PyOf d e) : PyOf (.lst ds) (.list es)
  | tup {ds : List D} {es : List PyData} (hl : ds.length = es.length) (h : ∀ (i : Nat) (d : D) (e : PyData), ds[i]? = some d → es[i]? = some e → PyOf d e) : PyOf (.tup ds) (.tuple es)
section
variable {K : PySem.W.Frag} {F H : Hp}
theorem dpAll_of : ∀ {vs : List V} {es : List PyData}, vs.length = es.length → (∀ (i : Nat) (v : V) (e : PyData), vs[i]? = some v → es[i]? = some e → Dp K H v e) → DpAll K H vs es
  | [], [], _, _ => .nil
  | v :: vs, e :: es, hl, h => .cons (h 0 v e rfl rfl) (dpAll_of (by simpa using hl) fun i v' e' a b => h (i + 1) v' e' (by simpa using a) (by simpa using b))
  | [], _ :: _, hl, _ => by simp at hl
  | _ :: _, [], hl, _ => by simp at hl
theorem PyOf.dp {d : D} {e : PyData} (h : PyOf d e) (ex : Ex F H) : ∀ {v : V}, R K F d v → Dp K H v e := by
  induction h with
  | non => intro v r; cases r; exact .non
  | bl b => intro v r; cases r; exact .bl b
  | int i => intro v r; cases r; exact .int i
  | str s => intro v r; cases r; exact .str s
  | lst hl h ih =>
    intro v r
    obtain ⟨a, xs, rfl, ha, pa⟩ := R.lst_inv r
    refine .lst (SqL.of (ex _ _ ha)) (dpAll_of (by rw [← pa.1, hl]) fun i v e a b => ?_)
    obtain ⟨d, hd, rd⟩ := pa.flip.get a
    exact ih i d e hd b rd
  | tup hl h ih =>
    intro v r
    obtain ⟨a, xs, rfl, ha, pa⟩ := R.tup_inv r
    refine .tup (SqT.of (ex _ _ ha)) (dpAll_of (by rw [← pa.1, hl]) fun i v e a b => ?_)
    obtain ⟨d, hd, rd⟩ := pa.flip.get a
    exact ih i d e hd b rd
theorem PyOf.ints (ns : List Int) : PyOf (.lst (ns.map D.int)) (.list (ns.map PyData.int)) := by
  refine .lst (by simp) fun i d e a b => ?_
  rw [List.getElem?_map] at a b
  cases c : ns[i]? with
  | none => rw [c] at a; cases a
  | some n => rw [c] at a b; cases a; cases b; exact .int n
end
section
variable {K : PySem.W.Frag} {M M1 M2 : List MC} {E : List (Option Rv)} {x y : Rv} {ta : TE}
theorem shaped_eqv {e : PyData} (h : SeqAt.shaped e = true) : PyData.eqv e e = true := SeqAt.eqv_refl e (SeqAt.canLay_of_shaped h)
/-- a == a, a != a -/
theorem od_eqS1 {d : D} {e : PyData} (h : PyOf d e) (hs : SeqAt.shaped e = true) : OpD K (rEqD K) M (.dat d) (.dat d) M (rbl true) := OpD.pure fun B F H As σ E v w S r1 r2 Q q =>
  ⟨e, e, h.dp S.ex r1, h.dp S.ex r2, hs, hs, by rw [shaped_eqv hs]; exact q _ (.bl _)⟩
theorem od_neS1 {d : D} {e : PyData} (h : PyOf d e) (hs : SeqAt.shaped e = true) : OpD K (rNeD K) M (.dat d) (.dat d) M (rbl false) := OpD.pure fun B F H As σ E v w S r1 r2 Q q =>
  ⟨e, e, h.dp S.ex r1, h.dp S.ex r2, hs, hs, by rw [shaped_eqv hs]; exact q _ (.bl _)⟩
theorem od_neL {ns ms : List Int} (h : ns = ms) : OpD K (rNeD K) M (rints ns) (rints ms) M (rbl false) := h ▸ od_neS1 (PyOf.ints ns) (PySem.W.ke_shaped_ints ns)
theorem od_eqL {ns ms : List Int} (h : ns = ms) : OpD K (rEqD K) M (rints ns) (rints ms) M (rbl true) := h ▸ od_eqS1 (PyOf.ints ns) (PySem.W.ke_shaped_ints ns)
theorem ev_listKeys {kvs : List (Key × D)} {ks : List Int} (ha : EvD K ta M E M1 x) (h : IsDct M1 x kvs) (hk : kvs.map (·.1) = ks.map Sum.inl) : EvD K (tListKeys ta) M E M1 (rints ks) := fun B F As σ H S Q q =>
  ha B F As σ H S _ fun v F1 As1 H1 S1 e1 p1 r1 => by
    obtain ⟨a, ws, rfl, hA, pa⟩ := h.view S1 r1
    refine ⟨a, ws, rfl, hA, fun p hp => ?_⟩
    have e : (ws.map fun z => kV z.1) = ks.map V.int := by
      have h2 : ws.map (·.1) = ks.map Sum.inl := pa.keys ▸ hk
      have h3 : (ws.map fun z => kV z.1) = (ws.map (·.1)).map kV := by rw [List.map_map]; rfl
      rw [h3, h2, List.map_map]; rfl
    rw [e]
    exact ev_lstNew S1 hp (P2.ofInts _) fun u F4 As4 H4 S4 e4 p4 r4 => q u F4 As4 H4 S4 (e1.trans e4) (p1.trans p4) r4
/-! ### min of pairs -/
abbrev pairD (p : Int × Int) : D := .tup [.int p.1, .int p.2]
abbrev pairP (p : Int × Int) : PyData := .tuple [.int p.1, .int p.2]
theorem PyOf.pair (p : Int × Int) : PyOf (pairD p) (pairP p) := .tup rfl fun i d e a b => by
  match i, a, b with
  | 0, a, b => cases a; cases b; exact .int _
  | 1, a, b => cases a; cases b; exact .int _
  | i + 2, a, b => simp at a
theorem lt_pair {p q : Int × Int} (h : p.1 < q.1) : dataLt (pairP q) (pairP p) = false := by
  have h1 : ¬ q.1 < p.1 := by omega
  show PyProof.Rows.lexLt itemOrd (keyToks (pairP q)) (keyToks (pairP p)) = false
  simp [keyToks, keyToksAll, PyProof.Rows.lexLt, itemOrd, itemLt, h, h1]
theorem minD_head {p : Int × Int} : ∀ {ps : List (Int × Int)}, (∀ q ∈ ps, p.1 < q.1) → minD (pairP p) (ps.map pairP) = pairP p
  | [], _ => rfl
  | q :: ps, h => by
    unfold minD
    rw [List.map_cons, List.foldl_cons, lt_pair (h q List.mem_cons_self)]
    exact minD_head (ps := ps) fun r hr => h r (List.mem_cons_of_mem _ hr)
theorem alike_pairs (ps : List (Int × Int)) : AlikeAll (ps.map pairP) := by
  refine ⟨fun x hx y hy => ?_, fun x hx => ?_⟩
  · obtain ⟨p, _, rfl⟩ := List.mem_map.mp hx
    obtain ⟨q, _, rfl⟩ := List.mem_map.mp hy
    rfl
  · obtain ⟨p, _, rfl⟩ := List.mem_map.mp hx
    intro z; cases z
theorem depth_pairs : ∀ ps : List (Int × Int), PyData.depthAll (ps.map pairP) ≤ 60
  | [] => by decide
  | p :: ps => by
    have h := depth_pairs ps
    show max _ _ ≤ 60
    have h2 : PyData.depth (pairP p) ≤ 60 := by
      show PyData.depth (.tuple [.int p.1, .int p.2]) ≤ 60
      simp [PyData.depth, PyData.depthAll]
    omega
theorem cd_minP {p : Int × Int} {ps : List (Int × Int)} (hx : IsLst M x ((p :: ps).map pairD)) (h : ∀ q ∈ ps, p.1 < q.1) : CaD K (rMinD K) M [x] M (.dat (pairD p)) := CaD.pure fun B F H As σ E vs S r1 Q q => by
  obtain ⟨v, rfl, hv⟩ := r1.one
  obtain ⟨a, ws, rfl, ha, pa⟩ := hx.view S hv
  refine ⟨a, ws, pairP p, ps.map pairP, rfl, SqL.of ha, ?_, alike_pairs (p :: ps), depth_pairs (p :: ps), fun i y hy hi => ?_⟩
  · refine dpAll_of (by rw [← pa.1]; simp) fun i v e e1 e2 => ?_
    obtain ⟨d, hd, rd⟩ := pa.flip.get e1
    have e2 : ((p :: ps).map pairP)[i]? = some e := e2
    rw [List.getElem?_map] at hd e2
    cases c : (p :: ps)[i]? with
    | none => rw [c] at hd; cases hd
    | some z => rw [c] at hd e2; cases hd; cases e2; exact (PyOf.pair z).dp S.ex rd
  · rw [minD_head h] at hi
    obtain ⟨d, hd, rd⟩ := pa.flip.get hy
    rw [List.getElem?_map] at hd
    cases c : (p :: ps)[i]? with
    | none => rw [c] at hd; cases hd
    | some z =>
      rw [c] at hd
      have e3 : ((p :: ps).map pairP).getD i .none = pairP z := by rw [List.getD_eq_getElem?_getD, List.getElem?_map, c]; rfl
      have e4 : pairP z = pairP p := e3.symm.trans hi
      have e5 : z = p := by
        injection e4 with e4
        injection e4 with a1 a2
        injection a2 with a2 _
        injection a1 with a1
        injection a2 with a2
        exact Prod.ext a1 a2
      cases hd
      subst e5
      exact q _ rd
end
end DL
set_option Elab.async false
set_option linter.all false
set_option maxRecDepth 100000
set_option maxHeartbeats 4000000
/-! DL, eighth part: comprehensions over lists of numbers, truth of a list, loops over a dict's keys, equality as the laws ask it. -/
namespace DL
open PySem L2
open Evl (Ex)
section
variable {K : PySem.W.Frag} {B : Base} {F F' F1 H H' H1 : Hp} {As As' As1 : List Addr} {M M0 M0' M1 M2 M3 M' M'' : List MC} {σ σ' : St} {E E' : List (Option Rv)} {ta tb te tx tl : TE} {tt : TT} {x y z r : Rv} {xs rs : List Rv} {b : Bool} {j : Nat}
theorem map_gI (xs : List Int) : (List.range xs.length).map (fun i => gI xs (i : Nat)) = xs := by
  refine List.ext_getElem? fun i => ?_
  rw [List.getElem?_map]
  by_cases h : i < xs.length
  · rw [List.getElem?_range h, List.getElem?_eq_getElem h]
    show some (xs.getD (Int.toNat (i : Int)) 0) = _
    rw [Int.toNat_natCast, List.getD_eq_getElem?_getD, List.getElem?_eq_getElem h]; rfl
  · rw [List.getElem?_eq_none (by simpa using h), List.getElem?_eq_none (by omega)]; rfl
theorem givD_list (xs : List Int) (p : Int → Bool) (f : Int → D) : givD xs.length (fun i => p (gI xs (i : Nat))) (fun i => f (gI xs (i : Nat))) = (xs.filter p).map f := by
  have h : (xs.filter p).map f = (((List.range xs.length).map (fun i => gI xs (i : Nat))).filter p).map f := by rw [map_gI]
  rw [h, List.filter_map, List.map_map]; rfl
theorem getElem?_ints {xs : List Int} {i : Nat} {d : D} (h : (xs.map D.int)[i]? = some d) : d = .int (gI xs (i : Nat)) ∧ gI xs (i : Nat) ∈ xs := by
  rw [List.getElem?_map] at h
  cases c : xs[i]? with
  | none => rw [c] at h; cases h
  | some n =>
    rw [c] at h; cases h
    have e : gI xs (i : Nat) = n := by
      unfold gI
      rw [Int.toNat_natCast, List.getD_eq_getElem?_getD, c]; rfl
    rw [e]; exact ⟨rfl, List.mem_of_getElem? c⟩
/-- [e for x in xs if t], numbers, the cells left as they are -/
theorem ev_lcLI {ns : List Int} (p : Int → Bool) (f : Int → D) (ha : EvD K tl M E M1 (rints ns)) (hn : ns.length ≤ 16777000)
    (ht : ∀ n ∈ ns, EvT K tt M1 (E.set j (some (rint n))) M1 (p n)) (he : ∀ n ∈ ns, p n = true → EvD K te M1 (E.set j (some (rint n))) M1 (.dat (f n))) :
    EvD K (tLc (iList K tl) (gName j) tt te [j]) M E M1 (.dat (.lst ((ns.filter p).map f))) := by
  have h := ev_lcL (tt := tt) (te := te) (j := j) (fun _ => M1) (fun i => p (gI ns (i : Nat))) (fun i => f (gI ns (i : Nat))) ha (by rw [List.length_map]; exact hn) rfl fun i d hd => by
    obtain ⟨rfl, hm⟩ := getElem?_ints hd
    exact LcT.tested (ht _ hm) (he _ hm)
  rw [List.length_map, givD_list] at h
  exact h
/-- [e for x in xs] -/
theorem ev_lcLA {ns : List Int} (f : Int → D) (ha : EvD K tl M E M1 (rints ns)) (hn : ns.length ≤ 16777000)
    (he : ∀ n ∈ ns, EvD K te M1 (E.set j (some (rint n))) M1 (.dat (f n))) :
    EvD K (tLc (iList K tl) (gName j) tYes te [j]) M E M1 (.dat (.lst (ns.map f))) := by
  have h := ev_lcLI (tt := tYes) (fun _ => true) f ha hn (fun _ _ => et_yes) fun n hm _ => he n hm
  rwa [List.filter_eq_self.mpr (fun _ _ => rfl)] at h
theorem ev_lcLAI {ns : List Int} (f : Int → Int) (ha : EvD K tl M E M1 (rints ns)) (hn : ns.length ≤ 16777000)
    (he : ∀ n ∈ ns, EvD K te M1 (E.set j (some (rint n))) M1 (rint (f n))) :
    EvD K (tLc (iList K tl) (gName j) tYes te [j]) M E M1 (rints (ns.map f)) := by
  have h := ev_lcLA (fun n => .int (f n)) ha hn he
  have e : (ns.map fun n => D.int (f n)) = (ns.map f).map D.int := by rw [List.map_map]; rfl
  rwa [e] at h
theorem ev_lcLII {ns : List Int} (p : Int → Bool) (f : Int → Int) (ha : EvD K tl M E M1 (rints ns)) (hn : ns.length ≤ 16777000)
    (ht : ∀ n ∈ ns, EvT K tt M1 (E.set j (some (rint n))) M1 (p n)) (he : ∀ n ∈ ns, p n = true → EvD K te M1 (E.set j (some (rint n))) M1 (rint (f n))) :
    EvD K (tLc (iList K tl) (gName j) tt te [j]) M E M1 (rints ((ns.filter p).map f)) := by
  have h := ev_lcLI p (fun n => .int (f n)) ha hn ht he
  have e : ((ns.filter p).map fun n => D.int (f n)) = ((ns.filter p).map f).map D.int := by rw [List.map_map]; rfl
  rwa [e] at h
/-- [e for i in range(n) if t] -/
theorem ev_lcR {t : TA} {n : Int} (p : Nat → Bool) (f : Nat → D) (ha : EvA K t M E M1 [rint n]) (hn : -16777000 ≤ n ∧ n ≤ 16777000)
    (ht : ∀ i : Nat, (i : Int) < n → EvT K tt M1 (E.set j (some (rint (i : Int)))) M1 (p i)) (he : ∀ i : Nat, (i : Int) < n → p i = true → EvD K te M1 (E.set j (some (rint (i : Int)))) M1 (.dat (f i))) :
    EvD K (tLc (iRng1 t) (gName j) tt te [j]) M E M1 (.dat (.lst (((List.range n.toNat).filter p).map f))) :=
  ev_lcR1 (fun _ => M1) p f ha hn rfl fun i hi => LcT.tested (ht i hi) (he i hi)
theorem ev_lcRA {t : TA} {n : Int} (f : Nat → D) (ha : EvA K t M E M1 [rint n]) (hn : -16777000 ≤ n ∧ n ≤ 16777000)
    (he : ∀ i : Nat, (i : Int) < n → EvD K te M1 (E.set j (some (rint (i : Int)))) M1 (.dat (f i))) :
    EvD K (tLc (iRng1 t) (gName j) tYes te [j]) M E M1 (.dat (.lst ((List.range n.toNat).map f))) := by
  have h := ev_lcR (tt := tYes) (fun _ => true) f ha hn (fun _ _ => et_yes) fun i hi _ => he i hi
  rwa [List.filter_eq_self.mpr (fun _ _ => rfl)] at h
theorem ev_lcRAI {t : TA} {n : Int} (f : Nat → Int) (ha : EvA K t M E M1 [rint n]) (hn : -16777000 ≤ n ∧ n ≤ 16777000)
    (he : ∀ i : Nat, (i : Int) < n → EvD K te M1 (E.set j (some (rint (i : Int)))) M1 (rint (f i))) :
    EvD K (tLc (iRng1 t) (gName j) tYes te [j]) M E M1 (rints ((List.range n.toNat).map f)) := by
  have h := ev_lcRA (fun i => .int (f i)) ha hn he
  have e : ((List.range n.toNat).map fun i => D.int (f i)) = ((List.range n.toNat).map f).map D.int := by rw [List.map_map]; rfl
  rwa [e] at h
theorem ev_lcRI {t : TA} {n : Int} (p : Nat → Bool) (f : Nat → Int) (ha : EvA K t M E M1 [rint n]) (hn : -16777000 ≤ n ∧ n ≤ 16777000)
    (ht : ∀ i : Nat, (i : Int) < n → EvT K tt M1 (E.set j (some (rint (i : Int)))) M1 (p i)) (he : ∀ i : Nat, (i : Int) < n → p i = true → EvD K te M1 (E.set j (some (rint (i : Int)))) M1 (rint (f i))) :
    EvD K (tLc (iRng1 t) (gName j) tt te [j]) M E M1 (rints (((List.range n.toNat).filter p).map f)) := by
  have h := ev_lcR p (fun i => .int (f i)) ha hn ht he
  have e : (((List.range n.toNat).filter p).map fun i => D.int (f i)) = (((List.range n.toNat).filter p).map f).map D.int := by rw [List.map_map]; rfl
  rwa [e] at h
/-- .. each turn changing the cells -/
theorem ev_lcRS {t : TA} {n : Int} (Ms : Nat → List MC) (f : Nat → Int) (ha : EvA K t M E M1 [rint n]) (hn : -16777000 ≤ n ∧ n ≤ 16777000) (h0 : Ms 0 = M1)
    (he : ∀ i : Nat, (i : Int) < n → EvD K te (Ms i) (E.set j (some (rint (i : Int)))) (Ms (i + 1)) (rint (f i))) :
    EvD K (tLc (iRng1 t) (gName j) tYes te [j]) M E (Ms n.toNat) (rints ((List.range n.toNat).map f)) := by
  have h := ev_lcR1 (tt := tYes) Ms (fun _ => true) (fun i => .int (f i)) ha hn h0 fun i hi => LcT.moved (he i hi)
  rw [givD_all] at h
  have e : ((List.range n.toNat).map fun i => D.int (f i)) = ((List.range n.toNat).map f).map D.int := by rw [List.map_map]; rfl
  rwa [e] at h
theorem ev_lcRSM {t : TA} {n : Int} (Ms : Nat → List MC) (f : Nat → Int) (ha : EvA K t M E M1 [rint n]) (hn : -16777000 ≤ n ∧ n ≤ 16777000) (h0 : Ms 0 = M1)
    (he : ∀ i : Nat, (i : Int) < n → EvD K te (Ms i) (E.set j (some (rint (i : Int)))) (Ms (i + 1)) (rint (f i))) :
    EvD K (tLc (iRng1 t) (gName j) tYes te [j]) M E (Ms n.toNat ++ [.lst (((List.range n.toNat).map f).map D.int)]) (.cel (Ms n.toNat).length) := by
  have h := ev_lcR1M (tt := tYes) Ms (fun _ => true) (fun i => .int (f i)) ha hn h0 fun i hi => LcT.moved (he i hi)
  rw [givD_all] at h
  have e : ((List.range n.toNat).map fun i => D.int (f i)) = ((List.range n.toNat).map f).map D.int := by rw [List.map_map]; rfl
  rwa [e] at h
/-! ### truth of a list -/
theorem et_truL {ds : List D} (ha : EvD K ta M E M1 x) (h : IsLst M1 x ds) : EvT K (fun σ H Q => ta σ H fun x H' => ∃ k, TruV K x H' k ∧ Q k H') M E M1 (!ds.isEmpty) := fun B F As σ H S Q q =>
  ha B F As σ H S _ fun v F1 As1 H1 S1 e1 p1 r1 => by
    obtain ⟨a, vs, rfl, hA, pa⟩ := h.view S1 r1
    refine ⟨!ds.isEmpty, .inl ⟨vs, SqL.of hA, ?_⟩, q F1 As1 H1 S1 e1 p1⟩
    have := pa.1
    cases ds <;> cases vs <;> first | rfl | simp at this
/-- an item of a dict that the top has written -/
theorem ev_kdict {w : World} {a : Addr} {k : Str} {n : Int} (hb : EvD K tb M E M1 (rstr k)) (h : L2.KDct K w a k (.int n)) : EvD K (tOp (rIxD K w) (tC (.ref a)) tb) M E M1 (rint n) := fun B F As σ H S Q q =>
  hb B F As σ H S _ fun v F1 As1 H1 S1 e1 p1 r1 => ⟨a, k, .int n, rfl, R.str_inv r1, h, q _ F1 As1 H1 S1 e1 p1 (.int n)⟩
theorem cutD_len {α : Type} (xs : List α) (lo hi : Option Int) : (cutD xs lo hi).length ≤ xs.length := by
  unfold cutD
  rw [List.length_take, List.length_drop]; omega
/-! ### any item of a list or a tuple -/
theorem od_ixD {ds : List D} {i : Int} {d : D} (h : IsLst M x ds) (ha : atI ds i = some d) : OpD K (rIx K) M x (rint i) M (.dat d) := fun B F As σ E H v w S r1 r2 Q q =>
  .inl (od_ixL h ha B F As σ E H v w S r1 r2 Q q)
theorem od_ixDT {ds : List D} {i : Int} {d : D} (ha : atI ds i = some d) : OpD K (rIx K) M (.dat (.tup ds)) (rint i) M (.dat d) := fun B F As σ E H v w S r1 r2 Q q =>
  .inr (.inl (od_ixT ha B F As σ E H v w S r1 r2 Q q))
/-! ### for k in d -/
theorem for_keys {d : Addr} {o : Obj} {kvs : List (Key × V)} {g : TG} {tb : TS} {D : Ends} {σ : St} {H : Hp} (Pv : Nat → St → Hp → Prop) (h0 : Pv 0 σ H) (hl : ∀ i σ H, Pv i σ H → H d = some (.frz o (.dK kvs)))
    (hs : ∀ (i : Nat) (k : Key) (v : V) (σ : St) (H : Hp), kvs[i]? = some (k, v) → Pv i σ H → g (kV k) σ H fun σ2 H2 => tb { D with nx := Pv (i + 1), ct := Pv (i + 1), bk := D.nx } σ2 H2) (hd : ∀ σ H, Pv kvs.length σ H → D.nx σ H) :
    ∃ W : Nat → Nat → St → Hp → Prop, (∃ m, W 0 m σ H) ∧ ∀ i m σ H, W i m σ H →
      ((Itk d o kvs).stop i H ∧ D.nx σ H) ∨ ((Itk d o kvs).go i H ∧ ∃ N : St → Hp → Prop, (∀ σ' H', N σ' H' → ∃ m', m' < m ∧ W (i + 1) m' σ' H') ∧ ∀ x H', (Itk d o kvs).yld i H x H' → g x σ H' fun σ2 H2 => tb { D with nx := N, ct := N, bk := D.nx } σ2 H2) := by
  refine ⟨fun i m σ H => m = kvs.length - i ∧ i ≤ kvs.length ∧ Pv i σ H, ⟨kvs.length, by simp, Nat.zero_le _, h0⟩, ?_⟩
  rintro i m σ H ⟨rfl, hi, p⟩
  by_cases hlt : i < kvs.length
  · refine .inr ⟨⟨hl i σ H p, hlt⟩, Pv (i + 1), fun σ' H' p' => ⟨kvs.length - (i + 1), by omega, rfl, hlt, p'⟩, fun x H' hy => ?_⟩
    obtain ⟨e, k, v, hk, ex⟩ := hy
    subst e; subst ex
    exact hs i k v σ _ hk p
  · have e : i = kvs.length := by omega
    subst e
    exact .inl ⟨⟨hl _ σ H p, Nat.le_refl _⟩, hd σ H p⟩
end
/-! ### equality as the laws ask it -/
noncomputable def deq (d e : D) : Bool := @decide (d = e) (Classical.propDecidable _)
theorem deq_eq {d e : D} (h : d = e) : deq d e = true := @decide_eq_true _ (Classical.propDecidable _) h
theorem deq_ne {d e : D} (h : d ≠ e) : deq d e = false := @decide_eq_false _ (Classical.propDecidable _) h
theorem deq_self (d : D) : deq d d = true := deq_eq rfl
theorem deq_int {i j : Int} : deq (.int i) (.int j) = decide (i = j) := by
  by_cases h : i = j
  · rw [deq_eq (by rw [h]), decide_eq_true h]
  · rw [deq_ne (fun z => h (by injection z)), decide_eq_false h]
theorem deq_bl {i j : Bool} : deq (.bl i) (.bl j) = decide (i = j) := by
  by_cases h : i = j
  · rw [deq_eq (by rw [h]), decide_eq_true h]
  · rw [deq_ne (fun z => h (by injection z)), decide_eq_false h]
theorem deq_str {i j : Str} : deq (.str i) (.str j) = decide (i = j) := by
  by_cases h : i = j
  · rw [deq_eq (by rw [h]), decide_eq_true h]
  · rw [deq_ne (fun z => h (by injection z)), decide_eq_false h]
/-- data of lists and tuples, at most so deep -/
def Plain : Nat → D → Prop
  | 0, _ => False
  | _ + 1, .non => True
  | _ + 1, .bl _ => True
  | _ + 1, .int _ => True
  | _ + 1, .str s => PyData.strOk s = true
  | n + 1, .lst ds => ds.length ≤ 16777216 ∧ ∀ d ∈ ds, Plain n d
  | n + 1, .tup ds => ds.length ≤ 16777216 ∧ ∀ d ∈ ds, Plain n d
  | _ + 1, _ => False
theorem Plain.ints {ns : List Int} (n : Nat) (h : ns.length ≤ 16777216) : Plain (n + 2) (.lst (ns.map D.int)) := ⟨by rw [List.length_map]; exact h, fun d hd => by
  obtain ⟨k, _, rfl⟩ := List.mem_map.mp hd
  exact trivial⟩
theorem Plain.pair (n : Nat) (p : Int × Int) : Plain (n + 2) (pairD p) := ⟨by show 2 ≤ 16777216; decide, fun d hd => by
  rcases List.mem_cons.mp hd with rfl | hd
  · exact trivial
  · have : d = .int p.2 := by simpa using hd
    subst this; exact trivial⟩
end DL
set_option Elab.async false
set_option linter.all false
set_option maxRecDepth 100000
set_option maxHeartbeats 4000000
/-! DL: the hand layer's rules with the written part named (a comprehension's block has the same one as its def). -/
namespace DL
open PySem L2 PySem.Spec PyProof.Rows
section
variable {X : Cx} {K : PySem.W.Frag}
theorem ix_listK (hK : X.K = K) : IxR X (rIxL K) := hK ▸ ix_list
theorem ix_tupK (hK : X.K = K) : IxR X (rIxT K) := hK ▸ ix_tup
theorem ix_seqK (hK : X.K = K) : IxR X (rIx K) := hK ▸ ix_seq
theorem ix_kdictK {w : World} (hK : X.K = K) (hw : X.w = w) : IxR X (rIxD K w) := hK ▸ hw ▸ ix_kdict
theorem op_inK (hK : X.K = K) : OpR X (compareOp .In) (rIn K false) := hK ▸ op_in_seq
theorem op_notInK (hK : X.K = K) : OpR X (compareOp .NotIn) (rIn K true) := hK ▸ op_notIn_seq
theorem op_eqDK (hu : X.A.units + 64 < cLine) (hK : X.K = K) : OpR X (compareOp .Eq) (rEqD K) := hK ▸ op_eqD hu
theorem op_neDK (hu : X.A.units + 64 < cLine) (hK : X.K = K) : OpR X (compareOp .NotEq) (rNeD K) := hK ▸ op_neD hu
theorem call_lenK (hK : X.K = K) : CallR X (.builtin "len") (fun xs H Q => ∃ p ys, xs = [V.ref p] ∧ (SqL K H p ys ∨ SqT K H p ys) ∧ Q (V.int (ys.length : Nat)) H) := hK ▸ call_len_seq
theorem call_listK (hK : X.K = K) : CallR X (.type "list") (fun xs H Q => ∃ p ys, xs = [V.ref p] ∧ (SqL K H p ys ∨ SqT K H p ys) ∧ ∀ (l : Addr), H l = none → Q (V.ref l) (upd H l (HO.lst ys))) := hK ▸ call_list_of
theorem call_tupleK (hK : X.K = K) : CallR X (.type "tuple") (fun xs H Q => ∃ p ys, xs = [V.ref p] ∧ ((SqL K H p ys ∧ ∀ (l : Addr), H l = none → Q (V.ref l) (upd H l (HO.tup ys))) ∨ SqT K H p ys ∧ Q (V.ref p) H)) := hK ▸ call_tuple_of
theorem cr_sumK (hc : X.calm = true) (hK : X.K = K) : CallR X (.builtin "sum") (rSum K) := hK ▸ cr_sum hc
theorem cr_maxK (hc : X.calm = true) (hK : X.K = K) : CallR X (.builtin "max") (rMax K) := hK ▸ cr_max hc
theorem cr_minK' (hc : X.calm = true) (hK : X.K = K) : CallR X (.builtin "min") (rMin K) := hK ▸ cr_min hc
theorem cr_minPK (hc : X.calm = true) (hu : X.A.units + 64 < cLine) (hK : X.K = K) : CallR X (.builtin "min") (rMinD K) := hK ▸ cr_minP hc hu
theorem cr_sortedK (hK : X.K = K) : CallR X (.builtin "sorted") (rSortedI K) := hK ▸ cr_sortedI
theorem cr_allK (hc : X.calm = true) (hK : X.K = K) : CallR X (.builtin "all") (rAll K) := hK ▸ cr_all hc
theorem cr_anyK (hc : X.calm = true) (hK : X.K = K) : CallR X (.builtin "any") (rAny K) := hK ▸ cr_any hc
theorem call_isiK' (hK : X.K = K) : CallR X (.builtin "isinstance") (rIsi K) := hK ▸ call_isi
theorem sl_listK (hK : X.K = K) : SlR X (rSlL K) := hK ▸ sl_list
theorem sl_tupK (hK : X.K = K) : SlR X (rSlT K) := hK ▸ sl_tup
theorem pget_listK (hK : X.K = K) : PGet X (rIxL K) := hK ▸ pget_list
theorem pi_listK {tg l : Expr} {tl : TE} (hK : X.K = K) (h : PE X l tl) : PI X tg l (iList K tl) := hK ▸ pi_list h
theorem pi_tupK {tg l : Expr} {tl : TE} (hK : X.K = K) (h : PE X l tl) : PI X tg l (iTup K tl) := hK ▸ pi_tup h
theorem pe_revLK {e : Expr} {te : TE} {k : Nat} {p1 p2 p3 pos : Pos} (hK : X.K = K) (he : PE X e te) : PE X (.Subscript e (.Slice none none (some (.UnaryOp .USub (.Constant (.int 1) k p1) p2)) p3) pos) (tRevL K te) := hK ▸ pe_revL he
theorem pt_truthK {a : Expr} {ta : TE} (hK : X.K = K) (ha : PE X a ta) (h : ∀ (whole : Sem Value), PySem.isTrue a X.env whole = (do
      let v ← whole
      standAt a.pos
      holding [v] (truthy v)) := by intro _; rfl) : PT X a (fun σ H Q => ta σ H fun x H' => ∃ k, TruV K x H' k ∧ Q k H') := hK ▸ pt_truth ha h
theorem pg_tupK {es : List Expr} {k : Nat} {t : TGs} {n : Nat} {pos : Pos} (hK : X.K = K) (hc : X.calm = true) (h : PGs X es t)
    (hn : (assignEach es X.env).length = n := by rfl) (hst : (assignEach es X.env).findIdx? (·.1) = none := by rfl) : PG X (.Tuple es k pos) (gTup K n t) := hK ▸ pg_tup hc h hn hst
theorem pe_bmK {o e : Expr} {es : List Expr} {to : TE} {t : TA} {name : Str} {apos cpos : Pos} {T id : String} {r : V → List V → Hp → VK → Prop} (hK : X.K = K) (h : PE X (.Call (.Attribute o name apos) (e :: es) [] cpos) (tBM X.K T r to t)) : PE X (.Call (.Attribute o name apos) (e :: es) [] cpos) (tBM K T r to t) := hK ▸ h
theorem pe_bm0K' {o : Expr} {to : TE} {name : Str} {apos cpos : Pos} {T id : String} {r : V → List V → Hp → VK → Prop} (hK : X.K = K) (h : PE X (.Call (.Attribute o name apos) [] [] cpos) (tBM0 X.K T r to)) : PE X (.Call (.Attribute o name apos) [] [] cpos) (tBM0 K T r to) := hK ▸ h
theorem pe_fldK {e : Expr} {f : Str} {ta : TE} {pos : Pos} (hK : X.K = K) (h : PE X (.Attribute e f pos) (tFld X.K ta f)) : PE X (.Attribute e f pos) (tFld K ta f) := hK ▸ h
theorem ps_fldK {o v : Expr} {f : Str} {ta tv : TE} {p1 p2 : Pos} (hK : X.K = K) (h : PS X (.Assign [.Attribute o f p1] v p2) (sFld X.K ta tv f)) : PS X (.Assign [.Attribute o f p1] v p2) (sFld K ta tv f) := hK ▸ h
end
end DL
set_option Elab.async false
set_option linter.all false
set_option maxRecDepth 100000
set_option maxHeartbeats 2000000
/-! DL, tenth part: a loop over a dict's keys, the dict locked meanwhile; calls of defs inside. -/
namespace DL
open PySem L2
open Evl (Ex)
section
variable {K : PySem.W.Frag} {B : Base} {F F' F1 H H' H1 : Hp} {σ σ' : St} {E E' : List (Option Rv)} {Φ : List MC → List Rv → List MC → Out → Prop}
theorem R.apart {a : Addr} {ws : List (Key × V)} (ha : F a = some (.dK ws)) : ∀ {n : Nat} {d : D} {v : V}, Plain n d → R K F d v → R K (del F a) d v
  | 0, _, _, h, _ => h.elim
  | n + 1, d, v, h, r => by
    cases r with
    | non => exact .non
    | bl b => exact .bl b
    | int i => exact .int i
    | str s => exact .str s
    | lst hb hl hr =>
      refine .lst (by rw [del_ne (fun z => by rw [z, ha] at hb; cases hb)]; exact hb) hl fun i d v e1 e2 => R.apart ha (h.2 d (List.mem_of_getElem? e1)) (hr i d v e1 e2)
    | tup hb hl hr =>
      refine .tup (by rw [del_ne (fun z => by rw [z, ha] at hb; cases hb)]; exact hb) hl fun i d v e1 e2 => R.apart ha (h.2 d (List.mem_of_getElem? e1)) (hr i d v e1 e2)
    | dct _ _ _ => exact h.elim
    | ins _ _ _ => exact h.elim
    | err _ _ _ => exact h.elim
    | scr _ => exact h.elim
/-- a def's promise, at one place -/
theorem FSp.at0 {As1 : List Addr} {M1 : List MC} {vs : List V} {xs : List D} {d : D} {Q : VK} {X : XK} (S1 : Sta K B F1 As1 M1 σ E H1) (r0 : P2 (R K F1) xs vs) (hΦ : Φ [] (xs.map Rv.dat) [] (.ret d))
    (q : ∀ v F' H', Sta K B F' As1 M1 σ E H' → Ex F1 F' → R K F' d v → Q v H') : FSp K Φ vs H1 Q X := by
  refine ⟨F1, [], [], xs.map Rv.dat, [], .ret d, ⟨S1.ex, rfl, List.nodup_nil, fun k a mc h => by simp at h, ⟨by simp [r0.1], fun i r h => ?_⟩, Ex.refl F1, fun a o h _ => h, fun a o _ h => h, fun a h => (by cases h), fun a o h => ⟨o, h⟩, fun a h => (by cases h), List.prefix_refl _⟩, Live.nil, hΦ, fun v F' As' M'' H' fin rv => ?_⟩
  · rw [List.getElem?_map, List.getElem?_map] at h
    cases c : xs[i]? with
    | none => rw [c] at h; cases h
    | some x =>
      rw [c] at h; cases h
      obtain ⟨v, hv, rv⟩ := r0.get c
      exact ⟨v, by rw [List.getElem?_map, hv]; rfl, rv⟩
  · obtain ⟨σ', E', S'⟩ := fin.sta
    have keep : ∀ a o, H1 a = some o → H' a = some o := fun a o h => S'.bH a o h (fun z => by cases z)
    refine q v F' H' ⟨S'.ex, S1.len, S1.nd, fun k a mc h1 h2 h3 => ?_, S1.slots.mono S'.bF (List.prefix_refl _), S1.bF.trans S'.bF, fun a o h hP => keep _ _ (S1.bH a o h hP), fun a o h h0 => ?_, S1.bA, fun a o h => ?_, fun a h => ?_, S1.pA⟩ S'.bF rv
    · obtain ⟨h4, o, h5, h6⟩ := S1.cell k a mc h1 h2 h3
      exact ⟨S'.bN a o h5 h4, o, keep _ _ h5, h6.mono S'.bF⟩
    · obtain ⟨u, hu⟩ := S1.bK a o h
      exact S'.bN a u hu (S1.bN a o h h0)
    · obtain ⟨u, hu⟩ := S1.bK a o h
      exact ⟨u, keep _ _ hu⟩
    · obtain ⟨u, hu⟩ := S1.kn a h
      exact ⟨u, keep _ _ hu⟩
/-- inside the loop: what stood before, the dict at a locked -/
structure InL (K : PySem.W.Frag) (F H : Hp) (a : Addr) (ws : List (Key × V)) (od : Obj) (σ0 : St) (j : Nat) (F' : Hp) (σ' : St) (H' : Hp) : Prop where
  sta : Sta K (Sta.self (del F a) (upd H a (.frz od (.dK ws))) []) F' [] [] σ' (List.replicate σ0.length none) H'
  same : ∀ m, m ≠ j → σ'[m]? = σ0[m]?
theorem InL.rd {a b : Addr} {ws : List (Key × V)} {od : Obj} {σ0 : St} {j : Nat} {u : HO} (L : InL K F H a ws od σ0 j F' σ' H') (ha : F a = some (.dK ws)) (h : F b = some u) : Rd H' b u := by
  by_cases e : b = a
  · subst e
    rw [ha] at h; cases h
    exact .inr ⟨od, L.sta.bH b _ upd_same (fun z => by cases z)⟩
  · exact .inl (L.sta.ex _ _ (L.sta.bF _ _ (by show del F a b = _; rw [del_ne e]; exact h)))
theorem s_lockK {i j : Nat} {kvs : List (Key × D)} {u : TS} {D : Ends} {As : List Addr} (S : Sta K B F As [] σ E H) (hE : E[i]? = some (some (.dat (.dct kvs)))) (hj : j < E.length)
    (hb : ∀ (a : Addr) (ws : List (Key × V)) (od : Obj) (F' : Hp) (σ' : St) (H' : Hp) (D' : Ends) (n : Nat) (k : Key) (d : DL.D), F a = some (.dK ws) → PK (R K F) kvs ws → σ[i]? = some (some (.ref a)) → InL K F H a ws od σ j F' σ' H' →
      kvs[n]? = some (k, d) → σ'[j]? = some (some (kV k)) → (∀ F'' H'', InL K F H a ws od σ j F'' σ' H'' → D'.nx σ' H'') → u D' σ' H')
    (hd : Nxt K B [] (E.set j none) D.nx) : tLock (tFor (iKeys (tVar i)) (gName j) u) D σ H := by
  have hAs : As = [] := List.eq_nil_of_length_eq_zero S.len
  subst hAs
  obtain ⟨v, hv, rv⟩ := S.slots.2 i _ hE
  obtain ⟨a, ws, rfl, ha, pa⟩ := R.dct_inv rv
  have hlen := S.slots.1
  refine ⟨a, .dK ws, S.ex _ _ ha, trivial, fun od => ⟨.ref a, hv, a, od, rfl, .inl ⟨ws, upd_same, ?_⟩⟩⟩
  refine for_keys (fun _ σ' H' => ∃ F', InL K F H a ws od σ j F' σ' H') ⟨del F a, ?_, fun _ _ => rfl⟩ (fun n σ' H' ⟨F', L⟩ => L.sta.bH a _ upd_same (fun z => by cases z)) (fun n k v σ' H' hk ⟨F', L⟩ => ?_) (fun σ' H' ⟨F', L⟩ => ⟨L.sta.bH a _ upd_same (fun z => by cases z), hd (upd F' a (.dK ws)) [] σ' _ ?_⟩)
  · exact ⟨fun b o h => by obtain ⟨h1, h2⟩ := del_some h; rw [upd_ne h1]; exact S.ex _ _ h2, rfl, List.nodup_nil, fun k a mc h => by simp at h, ⟨by rw [List.length_replicate], fun i r h => by rw [List.getElem?_replicate] at h; split at h <;> cases h⟩, Ex.refl _, fun b o h _ => h, fun b o _ h => h, fun b h => (by cases h), fun b o h => ⟨o, h⟩, fun b h => (by cases h), List.prefix_refl _⟩
  · have hk2 : ∃ d, kvs[n]? = some (k, d) := by
      have h1 : n < kvs.length := by rw [pa.1]; exact (List.getElem?_eq_some_iff.mp hk).1
      have h2 := (pa.2 n _ _ (List.getElem?_eq_getElem h1) hk).1
      exact ⟨kvs[n].2, by rw [List.getElem?_eq_getElem h1]; exact congrArg some (Prod.ext h2 rfl)⟩
    obtain ⟨d, hk2⟩ := hk2
    have hl2 : σ'.length = σ.length := by have := L.sta.slots.1; rw [List.length_replicate] at this; exact this.symm
    have L2 : InL K F H a ws od σ j F' (σ'.set j (some (kV k))) H' := ⟨{ L.sta with slots := ⟨by rw [List.length_replicate, List.length_set, hl2], fun i r h => by rw [List.getElem?_replicate] at h; split at h <;> cases h⟩ }, fun m hm => by rw [List.getElem?_set_ne (fun z => hm z.symm)]; exact L.same m hm⟩
    exact hb a ws od F' _ H' _ n k d ha pa hv L2 hk2 (by rw [List.getElem?_set_self (by rw [hl2, ← hlen]; exact hj)]) fun F'' H'' L3 => ⟨F'', L3⟩
  · have S' := L.sta
    have exF : Ex F (upd F' a (.dK ws)) := fun b o h => by
      by_cases e : b = a
      · subst e; rw [ha] at h; cases h; exact upd_same
      · rw [upd_ne e]; exact S'.bF _ _ (by show del F a b = _; rw [del_ne e]; exact h)
    have up1 : ∀ b o, H b = some o → ∃ o', upd H a (.frz od (.dK ws)) b = some o' := fun b o h => by
      by_cases e : b = a
      · subst e; exact ⟨_, upd_same⟩
      · exact ⟨o, by rw [upd_ne e]; exact h⟩
    refine ⟨fun b o h => ?_, rfl, List.nodup_nil, fun k a mc h => by simp at h, ⟨by rw [List.length_set, hlen]; have := S'.slots.1; rw [List.length_replicate] at this; exact this, fun m r h => ?_⟩, S.bF.trans exF, fun b o h hP => ?_, fun b o h h0 => ?_, fun b h => (by cases h), fun b o h => ?_, fun b h => (by cases h), S.pA⟩
    · by_cases e : b = a
      · subst e; rw [upd_same] at h ⊢; exact h
      · rw [upd_ne e] at h ⊢; exact S'.ex _ _ h
    · by_cases e : j = m
      · subst e
        rw [List.getElem?_set_self hj] at h; cases h
      · rw [List.getElem?_set_ne e] at h
        obtain ⟨v, hv, rv⟩ := S.slots.2 m r h
        exact ⟨v, by rw [L.same m (fun z => e z.symm)]; exact hv, rv.mono exF (List.prefix_refl _)⟩
    · have h1 := S.bH b o h hP
      by_cases e : b = a
      · subst e
        have h2 := S.ex _ _ ha
        rw [h2] at h1; cases h1
        exact upd_same
      · rw [upd_ne e]
        exact S'.bH b o (by show upd H a _ b = _; rw [upd_ne e]; exact h1) (fun z => by cases z)
    · have h1 := S.bN b o h h0
      have e : b ≠ a := fun z => by rw [z, ha] at h1; cases h1
      obtain ⟨o2, h2⟩ := S.bK b o h
      rw [upd_ne e]
      exact S'.bN b o2 (by show upd H a _ b = _; rw [upd_ne e]; exact h2) (by show del F a b = _; rw [del_ne e]; exact h1)
    · obtain ⟨o2, h2⟩ := S.bK b o h
      obtain ⟨o3, h3⟩ := up1 b o2 h2
      obtain ⟨o4, h4⟩ := S'.bK b o3 h3
      by_cases e : b = a
      · subst e; exact ⟨_, upd_same⟩
      · exact ⟨o4, by rw [upd_ne e]; exact h4⟩
theorem q_lockK {i j : Nat} {kvs : List (Key × D)} {u t : TS} {D : Ends} {As : List Addr} (S : Sta K B F As [] σ E H) (hE : E[i]? = some (some (.dat (.dct kvs)))) (hj : j < E.length)
    (hb : ∀ (a : Addr) (ws : List (Key × V)) (od : Obj) (F' : Hp) (σ' : St) (H' : Hp) (D' : Ends) (n : Nat) (k : Key) (d : DL.D), F a = some (.dK ws) → PK (R K F) kvs ws → σ[i]? = some (some (.ref a)) → InL K F H a ws od σ j F' σ' H' →
      kvs[n]? = some (k, d) → σ'[j]? = some (some (kV k)) → (∀ F'' H'', InL K F H a ws od σ j F'' σ' H'' → D'.nx σ' H'') → u D' σ' H')
    (hd : Nxt K B [] (E.set j none) (t D)) : tSeq (tLock (tFor (iKeys (tVar i)) (gName j) u)) t D σ H := s_lockK (D := { D with nx := t D }) S hE hj hb hd
end
end DL
set_option Elab.async false
set_option linter.all false
set_option maxRecDepth 100000
set_option maxHeartbeats 2000000
/-! DL, errors by data: expressions that raise, raising, the errors' own __init__, instances made, methods. -/
namespace DL
open PySem L2
open Evl (Ex)
section
variable {K : PySem.W.Frag} {B : Base} {F F' F1 H H' H1 : Hp} {As As' As1 : List Addr} {M M0 M0' M1 M2 M3 M' M'' : List MC} {σ σ' : L2.St} {E E' : List (Option Rv)} {ta tb te tx : TE} {x y z r : Rv} {xs rs rs0 : List Rv} {b : Bool} {Φ : List MC → List Rv → List MC → Out → Prop} {XX : XK} {t u : TA} {C : Addr} {fs : List (Str × D)}
/-- the caller behind a call that took no cell -/
theorem Sta.after0 (S1 : Sta K B F1 As1 M1 σ E H1) (fin : Fin K F1 H1 [] [] F' H' As' M'') : Sta K B F' As1 M1 σ E H' ∧ Ex F1 F' := by
  obtain ⟨τ, En, S2⟩ := fin.sta
  have same : ∀ c o, H1 c = some o → H' c = some o := fun c o g => S2.bH c o g (fun z => by cases z)
  refine ⟨⟨S2.ex, S1.len, S1.nd, fun k c mc g1 g2 g3 => ?_, S1.slots.mono S2.bF (List.prefix_refl _), S1.bF.trans S2.bF, fun c o g nP => same _ _ (S1.bH c o g nP), fun c o g g0 => ?_, S1.bA, fun c o g => ?_, fun c g => ?_, S1.pA⟩, S2.bF⟩
  · obtain ⟨g4, o, g5, g6⟩ := S1.cell k c mc g1 g2 g3
    exact ⟨S2.bN c o g5 g4, o, same _ _ g5, g6.mono S2.bF⟩
  · obtain ⟨w, hw⟩ := S1.bK c o g
    exact S2.bN c w hw (S1.bN c o g g0)
  · obtain ⟨w, hw⟩ := S1.bK c o g
    exact ⟨w, same _ _ hw⟩
  · obtain ⟨w, hw⟩ := S1.kn c g
    exact ⟨w, same _ _ hw⟩
/-- what a callee sees that takes no cell -/
theorem Sta.before0 {vs : List V} (S1 : Sta K B F1 As1 M1 σ E H1) (hx : dats xs ≠ none) (r1 : P2 (RV K F1 As1) xs vs) : Sta K (Sta.self F1 H1 []) F1 [] [] (vs.map some) (xs.map some) H1 := by
  obtain ⟨ds, hds⟩ := Option.ne_none_iff_exists'.mp hx
  have e := dats_eq hds
  refine ⟨S1.ex, rfl, List.nodup_nil, fun k a mc h => by simp at h, ⟨by simp [r1.1], fun i r h => ?_⟩, Ex.refl F1, fun a o h _ => h, fun a o _ h => h, fun a h => (by cases h), fun a o h => ⟨o, h⟩, fun a h => (by cases h), List.prefix_refl _⟩
  subst e
  rw [List.getElem?_map, List.getElem?_map] at h
  cases c : ds[i]? with
  | none => rw [c] at h; cases h
  | some d =>
    rw [c] at h; cases h
    obtain ⟨v, hv, rv⟩ := r1.get (x := .dat d) (by rw [List.getElem?_map, c]; rfl)
    exact ⟨v, by rw [List.getElem?_map, hv]; rfl, rv⟩
/-- te raises: an error of C, its fields fs; X: what is wished of it at the slots -/
def ExX (K : PySem.W.Frag) (X : L2.St → XK) (te : TE) (M : List MC) (E : List (Option Rv)) (M' : List MC) (C : Addr) (fs : List (Str × D)) : Prop := ∀ (B : Base) (F : Hp) (As : List Addr) (σ : L2.St) (H : Hp), Sta K B F As M σ E H →
  (∀ dd ws F' As' H', Sta K B F' As' M' σ E H' → H' dd = none → PK (R K F') fs ws → X σ (.ref C) (some dd) (upd H' dd (.xd ws))) → ∀ Q : VK, te σ H Q
def ExA (K : PySem.W.Frag) (X : L2.St → XK) (ta : TA) (M : List MC) (E : List (Option Rv)) (M' : List MC) (C : Addr) (fs : List (Str × D)) : Prop := ∀ (B : Base) (F : Hp) (As : List Addr) (σ : L2.St) (H : Hp), Sta K B F As M σ E H →
  (∀ dd ws F' As' H', Sta K B F' As' M' σ E H' → H' dd = none → PK (R K F') fs ws → X σ (.ref C) (some dd) (upd H' dd (.xd ws))) → ∀ Q : List V → Hp → Prop, ta σ H Q
variable {Xs : L2.St → XK}
theorem ex_fsp {vs : List V} {Q : VK} (S1 : Sta K B F1 As1 M1 σ E H1) (hx : dats xs ≠ none) (r1 : P2 (RV K F1 As1) xs vs) (hΦ : Φ [] xs [] (.exc C fs))
    (k : ∀ dd ws F' As' H', Sta K B F' As' M1 σ E H' → H' dd = none → PK (R K F') fs ws → XX (.ref C) (some dd) (upd H' dd (.xd ws))) : FSp K Φ vs H1 Q XX :=
  ⟨F1, [], [], xs, [], .exc C fs, S1.before0 hx r1, Live.nil, hΦ, fun dd ws F' As' M'' H' fin n p => k dd ws F' As1 H' (S1.after0 fin).1 n p⟩
theorem ex_call0 (ha : EvA K t M E M1 xs) (hx : dats xs ≠ none) (hΦ : Φ [] xs [] (.exc C fs)) : ExX K (fun _ => XX) (tCall (FSp K Φ) [] XX t) M E M1 C fs := fun B F As σ H S k Q =>
  ha B F As σ H S _ fun vs F1 As1 H1 S1 e1 p1 r1 => by
    rw [List.append_nil]
    exact ex_fsp S1 hx r1 hΦ k
theorem ex_callS (ha : EvA K t M E M1 xs) (hx : dats xs ≠ none) (hΦ : Φ [] xs [] (.exc C fs)) : ExX K Xs (tCallS (FSp K Φ) Xs t) M E M1 C fs := fun B F As σ H S k Q =>
  ha B F As σ H S _ fun vs F1 As1 H1 S1 e1 p1 r1 => ex_fsp S1 hx r1 hΦ k
theorem ev_fsp {vs : List V} {Q : VK} {d : D} (S1 : Sta K B F1 As1 M1 σ E H1) (hx : dats xs ≠ none) (r1 : P2 (RV K F1 As1) xs vs) (hΦ : Φ [] xs [] (.ret d))
    (k : ∀ v F' H', Sta K B F' As1 M1 σ E H' → Ex F1 F' → R K F' d v → Q v H') : FSp K Φ vs H1 Q XX :=
  ⟨F1, [], [], xs, [], .ret d, S1.before0 hx r1, Live.nil, hΦ, fun v F' As' M'' H' fin rv => k v F' H' (S1.after0 fin).1 (S1.after0 fin).2 rv⟩
theorem ev_callS {d : D} (ha : EvA K t M E M1 xs) (hx : dats xs ≠ none) (hΦ : Φ [] xs [] (.ret d)) : EvD K (tCallS (FSp K Φ) Xs t) M E M1 (.dat d) := fun B F As σ H S Q q =>
  ha B F As σ H S _ fun vs F1 As1 H1 S1 e1 p1 r1 => ev_fsp S1 hx r1 hΦ fun v F' H' S2 e2 rv => q v F' As1 H' S2 (e1.trans e2) p1 rv
/-! ### where an expression raises -/
theorem xa_here (h : ExX K Xs te M E M1 C fs) : ExA K Xs (tCons te t) M E M1 C fs := fun B F As σ H S k Q => h B F As σ H S k _
theorem xa_next (h0 : EvD K te M E M1 r) (h : ExA K Xs t M1 E M2 C fs) : ExA K Xs (tCons te t) M E M2 C fs := fun B F As σ H S k Q =>
  h0 B F As σ H S _ fun v F1 As1 H1 S1 e1 p1 r1 => h B F1 As1 σ H1 S1 k _
theorem ex_tup (h : ExA K Xs t M E M1 C fs) : ExX K Xs (tTup t) M E M1 C fs := fun B F As σ H S k Q => h B F As σ H S k _
theorem ex_if {tt : TT} (h : EvT K tt M E M1 b) (h1 : b = true → ExX K Xs ta M1 E M2 C fs) (h2 : b = false → ExX K Xs tb M1 E M2 C fs) : ExX K Xs (tIf tt ta tb) M E M2 C fs := fun B F As σ H S k Q => h B F As σ H S _ fun F1 As1 H1 S1 e1 p1 => by
  cases b with
  | true => exact h1 rfl B F1 As1 σ H1 S1 k _
  | false => exact h2 rfl B F1 As1 σ H1 S1 k _
theorem ex_op1 {op : R2} (h : ExX K Xs ta M E M1 C fs) : ExX K Xs (tOp op ta tb) M E M1 C fs := fun B F As σ H S k Q => h B F As σ H S k _
theorem ex_op2 {op : R2} (h0 : EvD K ta M E M1 x) (h : ExX K Xs tb M1 E M2 C fs) : ExX K Xs (tOp op ta tb) M E M2 C fs := fun B F As σ H S k Q => h0 B F As σ H S _ fun v F1 As1 H1 S1 e1 p1 r1 => h B F1 As1 σ H1 S1 k _
variable {De : Ends}
theorem x_ret (S : Sta K B F As M σ E H) (h : ExX K Xs te M E M1 C fs) (k : ∀ dd ws F' As' H', Sta K B F' As' M1 σ E H' → H' dd = none → PK (R K F') fs ws → Xs σ (.ref C) (some dd) (upd H' dd (.xd ws))) : tRet te De σ H := h B F As σ H S k _
theorem x_set {g : TG} (S : Sta K B F As M σ E H) (h : ExX K Xs te M E M1 C fs) (k : ∀ dd ws F' As' H', Sta K B F' As' M1 σ E H' → H' dd = none → PK (R K F') fs ws → Xs σ (.ref C) (some dd) (upd H' dd (.xd ws))) : tAsg te g De σ H := h B F As σ H S k _
theorem x_drop (S : Sta K B F As M σ E H) (h : ExX K Xs te M E M1 C fs) (k : ∀ dd ws F' As' H', Sta K B F' As' M1 σ E H' → H' dd = none → PK (R K F') fs ws → Xs σ (.ref C) (some dd) (upd H' dd (.xd ws))) : tDrop te De σ H := h B F As σ H S k _
theorem x_seq {t1 t2 : TS} (h : t1 { De with nx := t2 De } σ H) : tSeq t1 t2 De σ H := h
end
/-! ### an error's own __init__, and raising -/
/-- __init__(self, x): its base's __init__, then self.f = x -/
def spI1 (K : PySem.W.Frag) (f : Str) : Sp := fun vs H Q _ => ∃ (a C : Addr) (x : V), vs = [.ref a, x] ∧ OexC K C ∧ PySem.W.findIn K (.ref C) f = some none ∧ H a = some (exo a C none) ∧
  ∀ dx, H dx = none → dx ≠ a → Q .non (upd (upd H dx (exd dx [(f, x)])) a (exo a C (some dx)))
/-- .. with two fields -/
def spI2 (K : PySem.W.Frag) (f g : Str) : Sp := fun vs H Q _ => ∃ (a C : Addr) (x y : V), vs = [.ref a, x, y] ∧ OexC K C ∧ PySem.W.findIn K (.ref C) f = some none ∧ PySem.W.findIn K (.ref C) g = some none ∧ H a = some (exo a C none) ∧
  ∀ dx, H dx = none → dx ≠ a → Q .non (upd (upd (upd H dx (exd dx [(f, x)])) a (exo a C (some dx))) dx (exd dx [(g, y), (f, x)]))
section
variable {K : PySem.W.Frag} {B : Base} {F F' F1 H H' H1 : Hp} {As As' As1 : List Addr} {M M1 : List MC} {σ : L2.St} {E : List (Option Rv)} {vs : List V} {Q : VK} {XX : XK} {m f g : Str} {C : Addr} {t : TA} {N : List Str}
theorem init1_reads (hN : N.length = 2) (h : spI1 K f vs H Q XX) : tSeq (tDrop (tVeI K (tCons (tVar 0) (tCons (tC (.str m)) tNil)))) (tOst K f (tVar 0) (tVar 1)) { nx := fun _ H' => Q .non H', rt := Q } (L2.start N vs) H := by
  obtain ⟨a, C, x, rfl, T, hno, ha, q⟩ := h
  have es : L2.start N [.ref a, x] = [some (.ref a), some x] := by
    rw [start_eq, hN]; rfl
  rw [es]
  refine ⟨_, rfl, a, C, [.str m], rfl, Nat.le_of_ble_eq_true rfl, T, ha, ?_⟩
  exact ⟨_, rfl, _, rfl, a, C, rfl, T, hno, .inl ⟨ha, fun dx n ne => q dx n ne⟩⟩
theorem init2_reads (hN : N.length = 3) (h : spI2 K f g vs H Q XX) : tSeq (tDrop (tVeI K (tCons (tVar 0) (tCons (tC (.str m)) tNil)))) (tSeq (tOst K f (tVar 0) (tVar 1)) (tOst K g (tVar 0) (tVar 2))) { nx := fun _ H' => Q .non H', rt := Q } (L2.start N vs) H := by
  obtain ⟨a, C, x, y, rfl, T, hno, hno2, ha, q⟩ := h
  have es : L2.start N [.ref a, x, y] = [some (.ref a), some x, some y] := by
    rw [start_eq, hN]; rfl
  rw [es]
  refine ⟨_, rfl, a, C, [.str m], rfl, Nat.le_of_ble_eq_true rfl, T, ha, ?_⟩
  refine ⟨_, rfl, _, rfl, a, C, rfl, T, hno, .inl ⟨ha, fun dx n ne => ?_⟩⟩
  refine ⟨_, rfl, _, rfl, a, C, rfl, T, hno2, .inr ⟨dx, [(f, x)], upd_same, (upd_ne ne).trans upd_same, (by decide : (1 : Nat) ≤ 900), q dx n ne⟩⟩
theorem left_eq {a dx : Addr} {Hz : Hp} {ws : List (Str × V)} (ha : H a = none) (hz : ∀ b, b ≠ a → b ≠ dx → Hz b = H b) : upd (L2.del Hz a) dx (.xd ws) = upd H dx (.xd ws) := by
  funext b
  by_cases h1 : b = dx
  · subst h1; rw [upd_same, upd_same]
  · rw [upd_ne h1, upd_ne h1]
    by_cases h2 : b = a
    · subst h2; rw [L2.del_same, ha]
    · rw [L2.del_ne h2, hz b h2 h1]
/-- raise C(x) -/
theorem x_raise1 {d : D} (S : Sta K B F As M σ E H) (ha : EvA K t M E M1 [.dat d]) (T : OexC K C) (hno : PySem.W.findIn K (.ref C) f = some none)
    (k : ∀ dd ws F' As' H', Sta K B F' As' M1 σ E H' → H' dd = none → PK (R K F') [(f, d)] ws → XX (.ref C) (some dd) (upd H' dd (.xd ws))) : tMkO C (spI1 K f) [] t σ H XX :=
  ha B F As σ H S _ fun vs F1 As1 H1 S1 e1 p1 r1 => by
    obtain ⟨v, rfl, rv⟩ := r1.one
    refine ⟨Nat.le_of_ble_eq_true rfl, fun a hn => ⟨a, C, v, rfl, T, hno, upd_same, fun dx hd ne => ⟨rfl, dx, [(f, v)], upd_same, (upd_ne ne).trans upd_same, (upd_ne ne).symm.trans hd, ?_⟩⟩⟩
    have hdx : H1 dx = none := (upd_ne ne).symm.trans hd
    rw [left_eq hn (fun b b1 b2 => by rw [upd_ne b1, upd_ne b2, upd_ne b1])]
    exact k dx [(f, v)] F1 As1 H1 S1 hdx (P2.single ⟨rfl, rv⟩)
/-- raise C(x, y) -/
theorem x_raise2 {d1 d2 : D} (S : Sta K B F As M σ E H) (ha : EvA K t M E M1 [.dat d1, .dat d2]) (T : OexC K C) (hno : PySem.W.findIn K (.ref C) f = some none) (hno2 : PySem.W.findIn K (.ref C) g = some none)
    (k : ∀ dd ws F' As' H', Sta K B F' As' M1 σ E H' → H' dd = none → PK (R K F') [(g, d2), (f, d1)] ws → XX (.ref C) (some dd) (upd H' dd (.xd ws))) : tMkO C (spI2 K f g) [] t σ H XX :=
  ha B F As σ H S _ fun vs F1 As1 H1 S1 e1 p1 r1 => by
    obtain ⟨v, w, rfl, rv, rw_⟩ := r1.two
    refine ⟨Nat.le_of_ble_eq_true rfl, fun a hn => ⟨a, C, v, w, rfl, T, hno, hno2, upd_same, fun dx hd ne => ⟨rfl, dx, [(g, w), (f, v)], (upd_ne ne.symm).trans upd_same, upd_same, (upd_ne ne).symm.trans hd, ?_⟩⟩⟩
    have hdx : H1 dx = none := (upd_ne ne).symm.trans hd
    rw [left_eq hn (fun b b1 b2 => by rw [upd_ne b2, upd_ne b1, upd_ne b2, upd_ne b1])]
    exact k dx [(g, w), (f, v)] F1 As1 H1 S1 hdx (P2.cons ⟨rfl, rw_⟩ (P2.single ⟨rfl, rv⟩))
end
end DL
set_option Elab.async false
set_option linter.all false
set_option maxRecDepth 100000
set_option maxHeartbeats 2000000
/-! DL: fields, methods and making of instances; a caught error as data. -/
namespace DL
open PySem L2
open Evl (Ex)
section
variable {K : PySem.W.Frag} {B : Base} {F F' F1 H H' H1 : Hp} {As As' As1 : List Addr} {M M0 M0' M1 M2 M3 M' M'' : List MC} {σ σ' : L2.St} {E E' : List (Option Rv)} {ta tb te tx : TE} {x y z r : Rv} {xs rs rs0 : List Rv} {b : Bool} {Φ : List MC → List Rv → List MC → Out → Prop} {XX : XK} {t u : TA} {C : Addr} {fs : List (Str × D)} {f m : Str} {d : D} {De : Ends} {Xs : L2.St → XK}
theorem P2.nil_left {α β : Type} {R : α → β → Prop} {ys : List β} (h : P2 R [] ys) : ys = [] := List.eq_nil_of_length_eq_zero h.1.symm
theorem PK.look {ws : List (Str × V)} : ∀ {fs : List (Str × D)}, PK (R K F) fs ws → ((fs.lookup f = none ∧ ws.lookup f = none) ∨ ∃ d v, fs.lookup f = some d ∧ ws.lookup f = some v ∧ R K F d v) := by
  induction ws with
  | nil =>
    intro fs h
    have : fs = [] := List.eq_nil_of_length_eq_zero h.1
    subst this
    exact .inl ⟨rfl, rfl⟩
  | cons q ws ih =>
    intro fs h
    cases fs with
    | nil => have := h.1; simp at this
    | cons p fs =>
      obtain ⟨pk, pd⟩ := p
      obtain ⟨qk, qv⟩ := q
      obtain ⟨w, ws2, e, hh, ht⟩ := P2.inv_cons h
      cases e
      obtain ⟨hk, hr⟩ := hh
      have hk : pk = qk := hk
      subst hk
      rw [List.lookup_cons, List.lookup_cons]
      by_cases e : f = pk
      · subst e
        rw [beq_self_eq_true]
        exact .inr ⟨pd, qv, rfl, rfl, hr⟩
      · rw [beq_false_of_ne e]
        exact ih ht
theorem ev_fld (ha : EvD K ta M E M1 (.dat (.ins C fs))) (c : Cls K C) (n : NoAttr K C f) (hl : fs.lookup f = some d) : EvD K (tFld K ta f) M E M1 (.dat d) := fun B F As σ H S Q q =>
  ha B F As σ H S _ fun v F1 As1 H1 S1 e1 p1 r1 => by
    obtain ⟨a, dx, ws, rfl, hA, pa⟩ := R.ins_inv r1
    rcases pa.look (f := f) with ⟨g, _⟩ | ⟨d2, v2, g, g2, rv⟩
    · rw [hl] at g; cases g
    · rw [hl] at g; cases g
      exact ⟨a, C, dx, ws, v2, rfl, S1.ex _ _ hA, c, n, g2, q v2 F1 As1 H1 S1 e1 p1 rv⟩
theorem ev_fldC {k : Nat} (ha : EvD K ta M E M1 (.cel k)) (hk : M1[k]? = some (.ins C fs)) (c : Cls K C) (n : NoAttr K C f) (hl : fs.lookup f = some d) : EvD K (tFld K ta f) M E M1 (.dat d) := fun B F As σ H S Q q =>
  ha B F As σ H S _ fun v F1 As1 H1 S1 e1 p1 r1 => by
    obtain ⟨a, hA, rfl⟩ := r1
    obtain ⟨_, o, ho, dx, ws, rfl, pa⟩ := S1.cell k a _ hA hk (by intro z; cases z)
    rcases pa.look (f := f) with ⟨g, _⟩ | ⟨d2, v2, g, g2, rv⟩
    · rw [hl] at g; cases g
    · rw [hl] at g; cases g
      exact ⟨a, C, dx, ws, v2, rfl, ho, c, n, g2, q v2 F1 As1 H1 S1 e1 p1 rv⟩
/-- a method of an instance that does not change -/
theorem ev_meth0 (ho : EvD K ta M E M1 (.dat (.ins C fs))) (hm : fs.lookup m = none) (ha : EvA K t M1 E M2 xs) (hx : dats xs ≠ none) (hΦ : Φ [] (.dat (.ins C fs) :: xs) [] (.ret d)) : EvD K (tMeth C m (FSp K Φ) [] XX ta t) M E M2 (.dat d) := fun B F As σ H S Q q =>
  ho B F As σ H S _ fun v F1 As1 H1 S1 e1 p1 r1 => by
    obtain ⟨a, dx, ws, ev, hA, pa⟩ := R.ins_inv r1
    have hn : ws.lookup m = none := by
      rcases pa.look (f := m) with ⟨_, g⟩ | ⟨d2, v2, g, _⟩
      · exact g
      · rw [hm] at g; cases g
    refine ⟨a, dx, ws, ev, S1.ex _ _ hA, hn, ha B F1 As1 σ H1 S1 _ fun vs F2 As2 H2 S2 e2 p2 r2 => ?_⟩
    rw [List.append_nil]
    have hx2 : dats (.dat (.ins C fs) :: xs) ≠ none := by
      obtain ⟨ds, h⟩ := Option.ne_none_iff_exists'.mp hx
      intro z
      have : dats (.dat (.ins C fs) :: xs) = (dats xs).map (D.ins C fs :: ·) := rfl
      rw [this, h] at z; cases z
    exact ev_fsp S2 hx2 (P2.cons (R.mono r1 e2) r2) hΦ fun v F3 H3 S3 e3 rv => q v F3 As2 H3 S3 ((e1.trans e2).trans e3) (p1.trans p2) rv
theorem ex_meth0 (ho : EvD K ta M E M1 (.dat (.ins C fs))) (hm : fs.lookup m = none) (ha : EvA K t M1 E M2 xs) (hx : dats xs ≠ none) {D2 : Addr} {gs : List (Str × D)} (hΦ : Φ [] (.dat (.ins C fs) :: xs) [] (.exc D2 gs)) : ExX K (fun _ => XX) (tMeth C m (FSp K Φ) [] XX ta t) M E M2 D2 gs := fun B F As σ H S k Q =>
  ho B F As σ H S _ fun v F1 As1 H1 S1 e1 p1 r1 => by
    obtain ⟨a, dx, ws, ev, hA, pa⟩ := R.ins_inv r1
    have hn : ws.lookup m = none := by
      rcases pa.look (f := m) with ⟨_, g⟩ | ⟨d2, v2, g, _⟩
      · exact g
      · rw [hm] at g; cases g
    refine ⟨a, dx, ws, ev, S1.ex _ _ hA, hn, ha B F1 As1 σ H1 S1 _ fun vs F2 As2 H2 S2 e2 p2 r2 => ?_⟩
    rw [List.append_nil]
    have hx2 : dats (.dat (.ins C fs) :: xs) ≠ none := by
      obtain ⟨ds, h⟩ := Option.ne_none_iff_exists'.mp hx
      intro z
      have : dats (.dat (.ins C fs) :: xs) = (dats xs).map (D.ins C fs :: ·) := rfl
      rw [this, h] at z; cases z
    exact ex_fsp S2 hx2 (P2.cons (R.mono r1 e2) r2) hΦ k
/-! ### a caught error as data -/
theorem ev_isErr {a : Addr} {ob : Obj} {c : V} {cv : Value} (ha : EvD K ta M E M1 (.dat (.err a ob C fs))) (hc : ClsV c cv) (hk : PySem.W.kitOne K (.ref C) cv = some b) : EvD K (tCB (rIsErr K (bySuite a ob)) (tCons ta (tCons (tC c) tNil))) M E M1 (rbl b) := fun B F As σ H S Q q =>
  ha B F As σ H S _ fun v F1 As1 H1 S1 e1 p1 r1 => by
    obtain ⟨ws, rfl, he, pa⟩ := R.err_inv r1
    exact ⟨a, C, ob, ws, c, cv, b, rfl, ⟨rfl, rfl⟩, he.mono S1.ex, hc, hk, q _ F1 As1 H1 S1 e1 p1 (.bl b)⟩
theorem ev_errF {a : Addr} {ob : Obj} (ha : EvD K ta M E M1 (.dat (.err a ob C fs))) (hno : PySem.W.findIn K (.ref C) f = some none) (hl : fs.lookup f = some d) : EvD K (tErrF K (bySuite a ob) f ta) M E M1 (.dat d) := fun B F As σ H S Q q =>
  ha B F As σ H S _ fun v F1 As1 H1 S1 e1 p1 r1 => by
    obtain ⟨ws, rfl, he, pa⟩ := R.err_inv r1
    rcases pa.look (f := f) with ⟨g, _⟩ | ⟨d2, v2, g, g2, rv⟩
    · rw [hl] at g; cases g
    · rw [hl] at g; cases g
      exact ⟨a, C, ob, ws, v2, rfl, ⟨rfl, rfl⟩, he.mono S1.ex, hno, g2, q v2 F1 As1 H1 S1 e1 p1 rv⟩
/-- a def's promise that gets the handled error -/
abbrev FSpE (K : PySem.W.Frag) (Φ : Addr × Obj → List MC → List Rv → List MC → Out → Prop) : Addr × Obj → Sp := fun p => FSp K (Φ p)
/-- return f(error), in the suite of an except clause: the error was raised at H, its dict then laid at dd -/
theorem s_retErr {Ψ : Addr × Obj → List MC → List Rv → List MC → Out → Prop} {i : Nat} {a dd : Addr} {ws : List (Str × V)} (S : Sta K B F As M σ E H) (hi : i < E.length) (hdd : H dd = none) (hp : PK (R K F) fs ws) (T : ExcC K C) (hΦ : ∀ ob, Ψ (a, ob) [] [.dat (.err a ob C fs)] [] (.ret d))
    (k : ∀ v F' H', Sta K B F' As M (σ.set i (some (.ref a))) (E.set i none) H' → R K F' d v → De.rt v H') : tRet (tCallErrZ i a (.ref C) (some dd) (FSpE K Ψ)) De (σ.set i (some (.ref a))) (upd H dd (.xd ws)) := by
  obtain ⟨S1, e1⟩ := S.newF (o := .xd ws) hdd
  have hil : i < σ.length := by rw [← S.slots.1]; exact hi
  have S2 : Sta K B (upd F dd (.xd ws)) As M (σ.set i (some (.ref a))) (E.set i none) (upd H dd (.xd ws)) := { S1 with slots := ⟨by rw [List.length_set, List.length_set]; exact S1.slots.1, fun j r g => by
    by_cases e : i = j
    · subst e
      rw [List.getElem?_set_self hi] at g; cases g
    · rw [List.getElem?_set_ne e] at g
      obtain ⟨w, hw, rw_⟩ := S1.slots.2 j r g
      exact ⟨w, by rw [List.getElem?_set_ne e]; exact hw, rw_⟩⟩ }
  refine ⟨by rw [List.getElem?_set_self hil], fun ob hz hfv => ?_⟩
  have ner : R K (upd F dd (.xd ws)) (.err a ob C fs) (.ref a) := .err ⟨⟨hz.1, rfl⟩, hfv, T, dd, hz.2.1, upd_same⟩ hp.keys fun j p q g1 g2 => R.mono (hp.2 j p q g1 g2).2 e1
  exact ev_fsp S2 (xs := [.dat (.err a ob C fs)]) (by intro z; cases z) (P2.single ner) (hΦ ob) fun v F' H' S3 e3 rv => k v F' H' S3 rv
/-! ### instances made -/
def putD (f : Str) (d : D) : List (Str × D) → List (Str × D)
  | [] => [(f, d)]
  | (g, e) :: r => if g = f then (g, d) :: r else (g, e) :: putD f d r
theorem PK.putF {v : V} (hr : R K F d v) : ∀ {fs : List (Str × D)} {ws : List (Str × V)}, PK (R K F) fs ws → PK (R K F) (putD f d fs) (putF f v ws)
  | [], ws, h => by
    have := h.nil_left; subst this
    exact P2.single ⟨rfl, hr⟩
  | (g, e) :: fs, ws, h => by
    obtain ⟨q, ws2, rfl, ⟨hk, hq⟩, ht⟩ := P2.inv_cons h
    obtain ⟨qk, qv⟩ := q
    have hk : g = qk := hk
    subst hk
    unfold putD L2.putF
    by_cases c : g = f
    · rw [if_pos c, if_pos c]; exact P2.cons ⟨rfl, hr⟩ ht
    · rw [if_neg c, if_neg c]; exact P2.cons ⟨rfl, hq⟩ (PK.putF hr ht)
theorem s_fld {k : Nat} (S : Sta K B F As M σ E H) (h : EvD K tb M E M1 (.dat d)) (ho : EvD K ta M1 E M2 (.cel k)) (hk : M2[k]? = some (.ins C fs)) (c : Cls K C) (n : NoAttr K C f) (hl : fs.length < 1000)
    (kk : Nxt K B (M2.set k (.ins C (putD f d fs))) E De.nx) : sFld K ta tb f De σ H :=
  h B F As σ H S _ fun v F1 As1 H1 S1 e1 p1 r1 => ho B F1 As1 σ H1 S1 _ fun w F2 As2 H2 S2 e2 p2 r2 => by
    obtain ⟨a, hA, rfl⟩ := r2
    obtain ⟨_, o, ho, dx, ws, rfl, pa⟩ := S2.cell k a _ hA hk (by intro z; cases z)
    exact ⟨a, C, dx, ws, rfl, ho, c, n, by rw [← pa.1]; exact hl, kk _ _ _ _ (S2.chg hA hk (by intro z; cases z) ⟨dx, _, rfl, PK.putF (R.mono r1 e2) pa⟩)⟩
theorem q_fld {k : Nat} {t2 : TS} (S : Sta K B F As M σ E H) (h : EvD K tb M E M1 (.dat d)) (ho : EvD K ta M1 E M2 (.cel k)) (hk : M2[k]? = some (.ins C fs)) (c : Cls K C) (n : NoAttr K C f) (hl : fs.length < 1000)
    (kk : Nxt K B (M2.set k (.ins C (putD f d fs))) E (t2 De)) : tSeq (sFld K ta tb f) t2 De σ H := s_fld (De := { De with nx := t2 De }) S h ho hk c n hl kk
/-- the caller behind a call that took a new instance alone, which nobody holds any more -/
theorem Sta.afterX {F2 H2 : Hp} {p : Addr} {mc : MC} (S1 : Sta K B F1 As1 M1 σ E H1) (hp : H1 p = none) (e2 : Ex F1 F2) (b2 : ∀ a o, H1 a = some o → F1 a = none → F2 a = none) (kp : ∀ a o, H1 a = some o → H2 a = some o) (fin : Fin K F2 H2 [p] [mc] F' H' As' M'') : Sta K B F' As1 M1 σ E H' := by
  obtain ⟨τ, En, S2⟩ := fin.sta
  have same : ∀ c o, H1 c = some o → H' c = some o := fun c o g => S2.bH c o (kp c o g) fun z => by
    have z : c ∈ [p] := z
    rw [List.mem_singleton] at z
    rw [z, hp] at g; cases g
  have ef := e2.trans S2.bF
  have off : ∀ c o, H1 c = some o → F1 c = none → F' c = none := fun c o g g0 => S2.bN c o (kp c o g) (b2 c o g g0)
  refine ⟨S2.ex, S1.len, S1.nd, fun k c mc g1 g2 g3 => ?_, S1.slots.mono ef (List.prefix_refl _), S1.bF.trans ef, fun c o g nP => same _ _ (S1.bH c o g nP), fun c o g g0 => ?_, S1.bA, fun c o g => ?_, fun c g => ?_, S1.pA⟩
  · obtain ⟨g4, o, g5, g6⟩ := S1.cell k c mc g1 g2 g3
    exact ⟨off c o g5 g4, o, same _ _ g5, g6.mono ef⟩
  · obtain ⟨w, hw⟩ := S1.bK c o g
    exact off c w hw (S1.bN c o g g0)
  · obtain ⟨w, hw⟩ := S1.bK c o g
    exact ⟨w, same _ _ hw⟩
  · obtain ⟨w, hw⟩ := S1.kn c g
    exact ⟨w, same _ _ hw⟩
theorem rv_dats {vs : List V} {As2 : List Addr} (hx : dats xs ≠ none) (r1 : P2 (RV K F As) xs vs) : P2 (RV K F As2) xs vs := by
  obtain ⟨ds, hds⟩ := Option.ne_none_iff_exists'.mp hx
  have e := dats_eq hds
  subst e
  refine ⟨r1.1, fun i x y a b => ?_⟩
  have := r1.2 i x y a b
  rw [List.getElem?_map] at a
  cases c : ds[i]? with
  | none => rw [c] at a; cases a
  | some d => rw [c] at a; cases a; exact this
theorem make_in {vs : List V} {x dx : Addr} (S1 : Sta K B F1 As1 M1 σ E H1) (hx : H1 x = none) (hdx : H1 dx = none) (hne : dx ≠ x) :
    Sta K B (upd F1 dx (.own x)) (As1 ++ [x]) (M1 ++ [.ins C []]) σ E (upd (upd H1 dx (.own x)) x (.ins C dx [])) ∧ Ex F1 (upd F1 dx (.own x)) ∧ (As1 ++ [x])[M1.length]? = some x ∧ (M1 ++ [MC.ins C []])[M1.length]? = some (.ins C []) := by
  obtain ⟨S2, e2⟩ := S1.newF (o := .own x) hdx
  refine ⟨S2.newM (mc := .ins C []) (by rw [upd_ne hne.symm]; exact hx) ⟨dx, [], rfl, rfl, fun i _ _ h => by simp at h⟩, e2, ?_, ?_⟩
  · rw [List.getElem?_append_right (by rw [S1.len]; exact Nat.le_refl _), S1.len]; simp
  · rw [List.getElem?_append_right (Nat.le_refl _)]; simp
theorem ev_make (ha : EvA K t M E M1 xs) (hx : dats xs ≠ none) (hΦ : Φ [.ins C []] (.cel 0 :: xs) [.ins C fs] (.ret .non)) : EvD K (tMake C (FSp K Φ) [] XX t) M E (M1 ++ [.ins C fs]) (.cel M1.length) := fun B F As σ H S Q q =>
  ha B F As σ H S _ fun vs F1 As1 H1 S1 e1 p1 r1 x dx nx ndx hne => by
    obtain ⟨S3, e3, hA, hM⟩ := make_in (C := C) (vs := vs) S1 nx ndx hne
    rw [List.append_nil]
    refine ⟨_, [x], [.ins C []], .cel 0 :: xs, [.ins C fs], .ret .non, S3.before1 hA hM (by intro z; cases z) (P2.cons ⟨x, rfl, rfl⟩ (rv_dats hx ⟨r1.1, fun i a b g1 g2 => (r1.2 i a b g1 g2).mono e3 (List.prefix_refl _)⟩)), trivial, hΦ, fun v F' As' M'' H' fin rv => ⟨R.non_inv rv, ?_⟩⟩
    have S4 := S3.after1 (o0 := .lst []) hA hM fin (fun z => z)
    have em : (M1 ++ [MC.ins C []]).set M1.length (.ins C fs) = M1 ++ [.ins C fs] := by
      rw [List.set_append_right _ _ (Nat.le_refl _)]; simp
    rw [em] at S4
    obtain ⟨τ, En, S5⟩ := fin.sta
    exact q (.ref x) F' (As1 ++ [x]) H' S4 ((e1.trans e3).trans S5.bF) (p1.trans (List.prefix_append _ _)) ⟨x, hA, rfl⟩
theorem ex_make {D2 : Addr} {gs : List (Str × D)} {mc : MC} (ha : EvA K t M E M1 xs) (hx : dats xs ≠ none) (hΦ : Φ [.ins C []] (.cel 0 :: xs) [mc] (.exc D2 gs)) : ExX K (fun _ => XX) (tMake C (FSp K Φ) [] XX t) M E M1 D2 gs := fun B F As σ H S k Q =>
  ha B F As σ H S _ fun vs F1 As1 H1 S1 e1 p1 r1 x dx nx ndx hne => by
    obtain ⟨S3, e3, hA, hM⟩ := make_in (C := C) (vs := vs) S1 nx ndx hne
    rw [List.append_nil]
    refine ⟨_, [x], [.ins C []], .cel 0 :: xs, [mc], .exc D2 gs, S3.before1 hA hM (by intro z; cases z) (P2.cons ⟨x, rfl, rfl⟩ (rv_dats hx ⟨r1.1, fun i a b g1 g2 => (r1.2 i a b g1 g2).mono e3 (List.prefix_refl _)⟩)), trivial, hΦ, fun dd ws F' As' M'' H' fin n p => ?_⟩
    refine k dd ws F' As1 H' (S1.afterX (F2 := upd F1 dx (.own x)) (H2 := upd (upd H1 dx (.own x)) x (.ins C dx [])) nx e3 (fun a o g g0 => ?_) (fun a o g => ?_) fin) n p
    · rw [upd_ne (ne_of_none g ndx)]; exact g0
    · rw [upd_ne (ne_of_none g nx), upd_ne (ne_of_none g ndx)]; exact g
end
end DL
set_option Elab.async false
set_option linter.all false
set_option maxRecDepth 100000
set_option maxHeartbeats 2000000
/-! DL: xs.count(b), xs truth values. -/
namespace DL
open PySem L2 PySem.Spec PyProof.Rows
/-- how often b stands among truth values -/
def rCntB (K : PySem.W.Frag) : V → List V → Hp → VK → Prop := fun x xs H Q => ∃ (p : Addr) (bs : List Bool) (b : Bool), x = .ref p ∧ xs = [.bl b] ∧ SqL K H p (bs.map V.bl) ∧ Q (.int (bs.count b : Nat)) H
theorem bools_its : ∀ {bs : List Bool} {its : List Value}, Vals (bs.map V.bl) its → its = bs.map Value.bool
  | [], _, h => by cases h; rfl
  | b :: bs, _, h => by
    cases h with
    | cons r t =>
      have e := bools_its t
      subst e
      obtain rfl : _ = Value.bool b := r
      rfl
theorem bools_read (h : Heap) : ∀ bs : List Bool, ReadsAll h (bs.map Value.bool) (bs.map PyData.bool) []
  | [] => .nil
  | b :: bs => .cons (as := []) (.bool b) (bools_read h bs)
theorem bools_plain : ∀ bs : List Bool, PyData.plainAll (bs.map PyData.bool) = true
  | [] => rfl
  | b :: bs => by
    show (PyData.plain (.bool b) && PyData.plainAll (bs.map PyData.bool)) = true
    rw [bools_plain bs]; rfl
theorem bools_count (b : Bool) : ∀ bs : List Bool, ((bs.map PyData.bool).countP fun y => PyData.eqv y (.bool b)) = bs.count b
  | [] => rfl
  | c :: bs => by
    rw [List.map_cons, List.countP_cons, List.count_cons, bools_count b bs]
    cases b <;> cases c <;> rfl
theorem mt_bcount {X : Cx} (hu : X.A.units + 64 < cLine) : MtR X "list.count" (rCntB X.K) := by
  intro pins s σ H x xs v us Q Iv rx rxs h
  obtain ⟨p, bs, b, rfl, rfl, hs, hq⟩ := h
  cases rx
  obtain ⟨u, rfl, ru⟩ := rxs.one
  obtain rfl : u = Value.bool b := ru
  obtain ⟨its, rv, hl, hlen⟩ := Iv.list hs
  have e := bools_its rv
  subst e
  refine PySem.SeqAt.count_list_data (d := .bool b) (xs := bs.map PyData.bool) hl.isList (bools_read _ bs) (.bool b) (bools_plain bs) rfl ?_ ?_
  · have : min (PyData.depthAll (bs.map PyData.bool)) (PyData.bool b).depth ≤ 1 := Nat.le_trans (Nat.min_le_right _ _) (by cases b <;> decide)
    omega
  · rw [bools_count]
    exact ⟨.int (bs.count b : Nat), H, Iv.tok _, ⟨_, rfl⟩, hq⟩
theorem takes0N {X : Cx} : L2N.Takes X (fun _ _ _ _ => False) := by
  intro u s2 z
  obtain ⟨_, _, _, _, _, _, _, _, _, _, _, _, _, _, _, _, ff⟩ := z
  exact ff.elim
end DL
set_option Elab.async false
set_option linter.all false
set_option maxRecDepth 100000
set_option maxHeartbeats 2000000
/-! DL: a method's call in a try. -/
namespace DL
open PySem L2 PySem.Spec PyProof.Rows
open Evl (Ex)
/-- o.m(e, ..), what it raises wished for at the slots -/
def tMethT (C : Addr) (m : Str) (sp : Sp) (Xs : L2.St → XK) (ta : TE) (t : TA) : TE := fun σ H Q => ta σ H fun x H1 => ∃ a dx fs, x = .ref a ∧ H1 a = some (.ins C dx fs) ∧ fs.lookup m = none ∧ t σ H1 fun vs H2 => sp (x :: vs) H2 Q (Xs σ)
section
variable {X : Cx} {CX : CXT} {k : Nat} {f C : Addr} {fd : FuncData} {prs : List Str} {sp : Sp} {Xs : L2.St → XK} {m : Str} {pos apos : Pos} {e o : Expr} {es : List Expr} {ta : TE} {t : TA}
theorem pe_methT {pl : Sem Bool} (hobj : PE X o ta) (hC : Cls X.K C) (hM : Meth X.K C m f) (Fo : FnOk X.prog X.w X.K X.mg X.base CX k f fd prs sp) (hroom : Room k X.A) (hbinds : Binds X.K fd prs []) (hpass : ∀ σ, PassesAt CX X σ (Xs σ)) (hargs : PA X (e :: es) t)
    (hstar : starEach (e :: es) X.env = (false, eval e X.env) :: starEach es X.env := by rfl) (hplain : (backTo pos (starEach es X.env)).any (·.1) = false := by rfl)
    (heval : eval (.Call (.Attribute o m apos) (e :: es) [] pos) X.env = (do
      let w0 ← eval o X.env
      standAt apos.atName
      let (f0, fst0) ← holding [w0] (getMethod w0 m pl)
      callWith pos f0 fst0 (backTo pos (starEach (e :: es) X.env)) (backToKw pos (keywordEach [] X.env))) := by rfl) : PE X (.Call (.Attribute o m apos) (e :: es) [] pos) (tMethT C m sp Xs ta t) := by
  constructor
  intro pins s σ H Q Iv hw
  refine PySem.W.methodCall_KW (pl := pl) (thn (hobj.run pins s σ H _ Iv hw) ?_) heval
  rintro u s1 ⟨x, H1, I1, rx, a, dx, fs, rfl, hA, hl, hq⟩
  obtain rfl : u = Value.ref a := rx
  refine getmeth_ok I1 hA hC hM hl ?_
  refine PySem.W.callWith_K (first := [.ref a]) (h₀ := X.base) I1.ok.mod.kin hM.kp (thn (hargs.run pos pins s1 σ H1 _ I1 hq) ?_) hstar hplain
  rintro us s2 ⟨vs, H2, I2, rvs, hsp⟩
  exact ⟨I2.kIn, run_fnS (us := .ref a :: us) (vs := .ref a :: vs) Fo hroom hbinds (hpass σ) I2 (.cons rfl rvs) hsp⟩
end
section
variable {K : PySem.W.Frag} {M M1 M2 : List MC} {E : List (Option Rv)} {ta : TE} {t : TA} {C : Addr} {fs : List (Str × D)} {m : Str} {xs : List Rv} {Φ : List MC → List Rv → List MC → Out → Prop} {Xs : L2.St → XK} {d : D}
theorem dats_cons {c : D} (hx : dats xs ≠ none) : dats (.dat c :: xs) ≠ none := by
  obtain ⟨ds, h⟩ := Option.ne_none_iff_exists'.mp hx
  intro z
  have e : dats (.dat c :: xs) = (dats xs).map (c :: ·) := rfl
  rw [e, h] at z
  cases z
theorem ev_methT (ho : EvD K ta M E M1 (.dat (.ins C fs))) (hm : fs.lookup m = none) (ha : EvA K t M1 E M2 xs) (hx : dats xs ≠ none) (hΦ : Φ [] (.dat (.ins C fs) :: xs) [] (.ret d)) : EvD K (tMethT C m (FSp K Φ) Xs ta t) M E M2 (.dat d) := fun B F As σ H S Q q =>
  ho B F As σ H S _ fun v F1 As1 H1 S1 e1 p1 r1 => by
    obtain ⟨a, dx, ws, ev, hA, pa⟩ := R.ins_inv r1
    have hn : ws.lookup m = none := by
      rcases pa.look (f := m) with ⟨_, g⟩ | ⟨d2, v2, g, _⟩
      · exact g
      · rw [hm] at g; cases g
    exact ⟨a, dx, ws, ev, S1.ex _ _ hA, hn, ha B F1 As1 σ H1 S1 _ fun vs F2 As2 H2 S2 e2 p2 r2 => ev_fsp S2 (dats_cons hx) (P2.cons (R.mono r1 e2) r2) hΦ fun v F3 H3 S3 e3 rv => q v F3 As2 H3 S3 ((e1.trans e2).trans e3) (p1.trans p2) rv⟩
theorem ex_methT (ho : EvD K ta M E M1 (.dat (.ins C fs))) (hm : fs.lookup m = none) (ha : EvA K t M1 E M2 xs) (hx : dats xs ≠ none) {D2 : Addr} {gs : List (Str × D)} (hΦ : Φ [] (.dat (.ins C fs) :: xs) [] (.exc D2 gs)) : ExX K Xs (tMethT C m (FSp K Φ) Xs ta t) M E M2 D2 gs := fun B F As σ H S k Q =>
  ho B F As σ H S _ fun v F1 As1 H1 S1 e1 p1 r1 => by
    obtain ⟨a, dx, ws, ev, hA, pa⟩ := R.ins_inv r1
    have hn : ws.lookup m = none := by
      rcases pa.look (f := m) with ⟨_, g⟩ | ⟨d2, v2, g, _⟩
      · exact g
      · rw [hm] at g; cases g
    exact ⟨a, dx, ws, ev, S1.ex _ _ hA, hn, ha B F1 As1 σ H1 S1 _ fun vs F2 As2 H2 S2 e2 p2 r2 => ex_fsp S2 (dats_cons hx) (P2.cons (R.mono r1 e2) r2) hΦ k⟩
end
end DL
set_option Elab.async false
set_option linter.all false
set_option maxRecDepth 100000
set_option maxHeartbeats 2000000
/-! DL: pop at a place, list(range(a, b)). -/
namespace DL
open PySem L2
open Evl (Ex)
theorem P2.erase {α β : Type} {R : α → β → Prop} {xs : List α} {ys : List β} (h : P2 R xs ys) (j : Nat) : P2 R (xs.eraseIdx j) (ys.eraseIdx j) := by
  rw [List.eraseIdx_eq_take_drop_succ, List.eraseIdx_eq_take_drop_succ]
  exact (h.take j).append (h.drop (j + 1))
section
variable {K : PySem.W.Frag} {M M1 M2 M3 : List MC} {E : List (Option Rv)} {ta tb : TE}
/-- xs.pop(i), xs a cell -/
theorem ev_popAt {k : Nat} {ds1 ds : List D} {i : Int} {d : D} (ho : EvD K ta M E M1 (.cel k)) (hi : EvD K tb M1 E M2 (rint i)) (hk1 : M1[k]? = some (.lst ds1)) (hk : M2[k]? = some (.lst ds)) (h0 : 0 ≤ i) (hl : ds.length ≤ 16777216) (hd : ds[i.toNat]? = some d) :
    EvD K (tBM K "list" rPopAt ta (tCons tb tNil)) M E (M2.set k (.lst (ds.eraseIdx i.toNat))) (.dat d) := fun B F As σ H S Q q =>
  ho B F As σ H S _ fun v F1 As1 H1 S1 e1 p1 r1 => by
    obtain ⟨a, hA, rfl⟩ := r1
    obtain ⟨_, o, ho1, vs1, rfl, pa1⟩ := S1.cell k a _ hA hk1 (by intro z; cases z)
    refine ⟨.inl ⟨rfl, _, SqL.of ho1⟩, hi B F1 As1 σ H1 S1 _ fun v2 F2 As2 H2 S2 e2 p2 r2 => ?_⟩
    have hA := prefix_get p2 hA
    obtain ⟨_, o, ho, vs, rfl, pa⟩ := S2.cell k a _ hA hk (by intro z; cases z)
    cases R.int_inv r2
    obtain ⟨v, hv, rv⟩ := pa.get hd
    have hn := (List.getElem?_eq_some_iff.mp hd).1
    have hm := pa.1
    exact ⟨a, vs, i, i.toNat, v, rfl, rfl, ho, by omega, by omega, seqIndex_of h0 (by omega), hv, q v F2 As2 _ (S2.chg hA hk (by intro z; cases z) ⟨_, rfl, pa.erase _⟩) (e1.trans e2) (p1.trans p2) rv⟩
theorem eraseIdx_map {α β : Type} (f : α → β) : ∀ (xs : List α) (j : Nat), (xs.map f).eraseIdx j = (xs.eraseIdx j).map f
  | [], _ => rfl
  | x :: xs, 0 => rfl
  | x :: xs, j + 1 => congrArg (f x :: ·) (eraseIdx_map f xs j)
theorem ev_popAtI {k : Nat} {ds1 : List D} {ns : List Int} {i : Int} (ho : EvD K ta M E M1 (.cel k)) (hi : EvD K tb M1 E M2 (rint i)) (hk1 : M1[k]? = some (.lst ds1)) (hk : M2[k]? = some (.lst (ns.map D.int))) (h0 : 0 ≤ i) (h1 : i < ns.length) (hl : ns.length ≤ 16777216) :
    EvD K (tBM K "list" rPopAt ta (tCons tb tNil)) M E (M2.set k (.lst ((ns.eraseIdx i.toNat).map D.int))) (rint (gI ns i)) := by
  rw [← eraseIdx_map]
  refine ev_popAt ho hi hk1 hk h0 (by rw [List.length_map]; exact hl) ?_
  have h : i.toNat < ns.length := by omega
  rw [List.getElem?_map, List.getElem?_eq_getElem h]
  show some (D.int _) = some (D.int (ns.getD i.toNat 0))
  rw [List.getD_eq_getElem?_getD, List.getElem?_eq_getElem h]; rfl
/-- the numbers from a to b - 1 -/
def rgD (a b : Int) : List Int := (List.range (b - a).toNat).map fun (i : Nat) => a + i
theorem mem_rgD {a b n : Int} : n ∈ rgD a b ↔ a ≤ n ∧ n < b := by
  unfold rgD
  constructor
  · intro h
    obtain ⟨i, hi, rfl⟩ := List.mem_map.mp h
    have := List.mem_range.mp hi
    omega
  · intro h
    exact List.mem_map.mpr ⟨(n - a).toNat, List.mem_range.mpr (by omega), by omega⟩
theorem rgD_len {a b : Int} : (rgD a b).length = (b - a).toNat := by unfold rgD; rw [List.length_map, List.length_range]
theorem ev_listRg2 {a b : Int} (ha : EvD K ta M E M1 (rint a)) (hb : EvD K tb M1 E M2 (rint b)) (h : RgOk a b) : EvD K (tLstRg (tRg2 ta tb)) M E M2 (rints (rgD a b)) := fun B F As σ H S Q q =>
  ha B F As σ H S _ fun v F1 As1 H1 S1 e1 p1 r1 => hb B F1 As1 σ H1 S1 _ fun w F2 As2 H2 S2 e2 p2 r2 => by
    cases R.int_inv r1; cases R.int_inv r2
    refine ⟨a, b, rfl, rfl, h, fun p hp => ?_⟩
    have e : rgV a b = (rgD a b).map V.int := by
      unfold rgV rgD
      rw [List.map_map]; rfl
    rw [e]
    exact ev_lstNew S2 hp (P2.ofInts _) fun u F' As' H' S' e' p' r' => q u F' As' H' S' ((e1.trans e2).trans e') ((p1.trans p2).trans p') r'
end
end DL
set_option linter.all false
/-! DL: what isinstance and except ask of classes, out of what the top has written. -/
namespace DL
open PySem L2
section
variable {K : PySem.W.Frag} {C D : Addr} {T : String}
theorem kit_same : PySem.W.kitOne K (.ref C) (.ref C) = some true := by
  unfold PySem.W.kitOne
  rw [if_pos (by simp)]
theorem kit_cls2 (hc : PySem.W.isClsIn K D = true) (ht : PySem.W.typeIn K (.ref D) = some (.type "type")) {v : Value} : PySem.W.kitCls K v (.ref D) = PySem.W.subIn K v (.ref D) := by
  have hc : (PySem.W.clsIn K D).isSome = true := hc
  have e : ((PySem.W.clsIn K D).isSome && PySem.W.typeIn K (.ref D) == some (.type "type")) = true := by
    rw [hc, ht] <;> rfl
  show (if ((PySem.W.clsIn K D).isSome && PySem.W.typeIn K (.ref D) == some (.type "type")) = true then PySem.W.subIn K v (.ref D) else none) = _
  rw [if_pos e]
theorem kit_ne {b : Bool} (hn : (Value.ref C == Value.ref D) = false) (hc : PySem.W.isClsIn K D = true) (ht : PySem.W.typeIn K (.ref D) = some (.type "type")) (hs : PySem.W.subIn K (.ref C) (.ref D) = some b) : PySem.W.kitOne K (.ref C) (.ref D) = some b := by
  unfold PySem.W.kitOne
  rw [hn, if_neg Bool.false_ne_true, kit_cls2 hc ht, hs]
theorem kit_ty {b : Bool} (hn : (Value.ref C == Value.type T) = false) (hm : PySem.W.kitMeta T = true) (hs : PySem.W.subIn K (.ref C) (.type T) = some b) : PySem.W.kitOne K (.ref C) (.type T) = some b := by
  unfold PySem.W.kitOne
  rw [hn, if_neg Bool.false_ne_true]
  show (if PySem.W.kitMeta T = true then PySem.W.subIn K (.ref C) (.type T) else none) = _
  rw [if_pos hm, hs]
theorem exm_own {b : Bool} (hb : PySem.W.subIn K (.ref D) (.type "BaseException") = some true) (hc : PySem.W.isClsIn K D = true) (ht : PySem.W.typeIn K (.ref D) = some (.type "type")) (hs : PySem.W.subIn K (.ref C) (.ref D) = some b) : PySem.W.exmOne K (.ref C) (.ref D) = some b := by
  unfold PySem.W.exmOne
  rw [if_pos (by rw [hb]; rfl), kit_cls2 hc ht, hs]
end
end DL
set_option Elab.async false
set_option linter.all false
set_option maxRecDepth 100000
set_option maxHeartbeats 2000000
/-! DL: cells that hold cells: made, given back, read; cells lent to a def that only reads. -/
namespace DL
open PySem L2
open Evl (Ex)
def Rv.up (n : Nat) : Rv → Rv
  | .dat d => .dat d
  | .cel k => .cel (n + k)
def DO.up (n : Nat) : DO → DO
  | .lst rs => .lst (rs.map (Rv.up n))
  | .tup rs => .tup (rs.map (Rv.up n))
  | .ins C fs => .ins C (fs.map fun p => (p.1, p.2.up n))
def MC.up (n : Nat) : MC → MC
  | .deep x => .deep (x.up n)
  | mc => mc
section
variable {K : PySem.W.Frag} {B : Base} {F F' F1 H H' H1 : Hp} {As As' As1 : List Addr} {M M0 M1 M2 M3 M'' : List MC} {σ : L2.St} {E : List (Option Rv)} {ta tb te : TE} {r x : Rv} {xs rs : List Rv} {Φ : List MC → List Rv → List MC → Out → Prop} {XX : XK} {Xs : L2.St → XK} {t : TA} {v : V}
theorem RV.up (h : RV K F As r v) : RV K F (As1 ++ As) (r.up As1.length) v := by
  cases r with
  | dat d => exact h
  | cel k =>
    obtain ⟨a, h1, h2⟩ := h
    refine ⟨a, ?_, h2⟩
    rw [List.getElem?_append_right (Nat.le_add_right _ _), Nat.add_sub_cancel_left]
    exact h1
theorem P2.mapL {α β γ : Type} {R : α → β → Prop} {S : γ → β → Prop} {f : α → γ} {us : List α} {ws : List β} (h : P2 R us ws) (g : ∀ a b, R a b → S (f a) b) : P2 S (us.map f) ws := by
  refine ⟨by rw [List.length_map]; exact h.1, fun i p q e1 e2 => ?_⟩
  rw [List.getElem?_map] at e1
  cases c : us[i]? with
  | none => rw [c] at e1; cases e1
  | some a => rw [c] at e1; cases e1; exact g _ _ (h.2 i a q c e2)
theorem DOR.up {y : DO} {o : HO} (h : DOR K F As y o) : DOR K F (As1 ++ As) (y.up As1.length) o := by
  cases y with
  | lst rs => obtain ⟨zs, h1, h2⟩ := h; exact ⟨zs, h1, h2.mapL fun _ _ q => q.up⟩
  | tup rs => obtain ⟨zs, h1, h2⟩ := h; exact ⟨zs, h1, h2.mapL fun _ _ q => q.up⟩
  | ins C fs => obtain ⟨dx, ws, h1, h2⟩ := h; exact ⟨dx, ws, h1, h2.mapL fun _ _ q => ⟨q.1, q.2.up⟩⟩
theorem MCR.up {mc : MC} {o : HO} (h : MCR K F As mc o) : MCR K F (As1 ++ As) (mc.up As1.length) o := by
  cases mc with
  | deep y => exact DOR.up h
  | lst ds => exact h
  | dct kvs => exact h
  | ins C fs => exact h
  | gone => exact h
/-- the caller behind a call that took no cell and made some -/
theorem Sta.grow0 (S1 : Sta K B F1 As1 M1 σ E H1) (fin : Fin K F1 H1 [] [] F' H' As' M'') : Sta K B F' (As1 ++ As') (M1 ++ M''.map (MC.up M1.length)) σ E H' ∧ Ex F1 F' := by
  obtain ⟨τ, En, S2⟩ := fin.sta
  have same : ∀ c o, H1 c = some o → H' c = some o := fun c o g => S2.bH c o g (fun z => by cases z)
  have new : ∀ a ∈ As', H1 a = none := fun a h => by
    rcases S2.bA a h with q | q
    · cases q
    · exact q
  refine ⟨⟨S2.ex, by rw [List.length_append, List.length_append, List.length_map, S1.len, S2.len], ?_, fun k c mc g1 g2 g3 => ?_, S1.slots.mono S2.bF (List.prefix_append _ _), S1.bF.trans S2.bF, fun c o g nP => same _ _ (S1.bH c o g nP), fun c o g g0 => ?_, fun c g => ?_, fun c o g => ?_, fun c g => ?_, S1.pA.trans (List.prefix_append _ _)⟩, S2.bF⟩
  · rw [List.nodup_append]
    exact ⟨S1.nd, S2.nd, fun a ha b hb e => S1.off (new b hb) (e ▸ ha)⟩
  · by_cases hk : k < As1.length
    · rw [List.getElem?_append_left hk] at g1
      rw [List.getElem?_append_left (S1.len ▸ hk)] at g2
      obtain ⟨g4, o, g5, g6⟩ := S1.cell k c mc g1 g2 g3
      exact ⟨S2.bN c o g5 g4, o, same _ _ g5, g6.mono2 S2.bF (List.prefix_append _ _)⟩
    · have hk := Nat.le_of_not_lt hk
      rw [List.getElem?_append_right hk] at g1
      rw [List.getElem?_append_right (S1.len ▸ hk), List.getElem?_map, ← S1.len] at g2
      cases q : M''[k - As1.length]? with
      | none => rw [q] at g2; cases g2
      | some m0 =>
        rw [q] at g2
        have g2 : MC.up As1.length m0 = mc := Option.some.inj g2
        have n0 : m0 ≠ .gone := by
          rintro rfl
          exact g3 g2.symm
        obtain ⟨g4, o, g5, g6⟩ := S2.cell _ c m0 g1 q n0
        exact ⟨g4, o, g5, g2 ▸ MCR.up g6⟩
  · obtain ⟨w, hw⟩ := S1.bK c o g
    exact S2.bN c w hw (S1.bN c o g g0)
  · rcases List.mem_append.mp g with q | q
    · exact S1.bA c q
    · exact .inr (S1.base_off (new c q))
  · obtain ⟨w, hw⟩ := S1.bK c o g
    exact ⟨w, same _ _ hw⟩
  · rcases List.mem_append.mp g with q | q
    · obtain ⟨w, hw⟩ := S1.kn c q
      exact ⟨w, same _ _ hw⟩
    · exact S2.kn c q
theorem ev_growF {vs : List V} {Q : VK} {ms : List MC} (S1 : Sta K B F1 As1 M1 σ E H1) (hx : dats xs ≠ none) (r1 : P2 (RV K F1 As1) xs vs) (hΦ : Φ [] xs [] (.grow ms r))
    (k : ∀ v F' As' H', Sta K B F' As' (M1 ++ ms.map (MC.up M1.length)) σ E H' → Ex F1 F' → As1 <+: As' → RV K F' As' (r.up M1.length) v → Q v H') : FSp K Φ vs H1 Q XX :=
  ⟨F1, [], [], xs, [], .grow ms r, S1.before0 hx r1, Live.nil, hΦ, fun v F' As' M'' H' fin hd rv => by
    obtain ⟨S2, e2⟩ := S1.grow0 fin
    have hd : M'' = ms := hd
    subst hd
    exact k v F' _ H' S2 e2 (List.prefix_append _ _) (S1.len ▸ rv.up)⟩
/-- no cell goes in, new cells come out, among them what is given back -/
theorem ev_callW {ms : List MC} (ha : EvA K t M E M1 xs) (hx : dats xs ≠ none) (hΦ : Φ [] xs [] (.grow ms r)) : EvD K (tCall (FSp K Φ) [] XX t) M E (M1 ++ ms.map (MC.up M1.length)) (r.up M1.length) := fun B F As σ H S Q q =>
  ha B F As σ H S _ fun vs F1 As1 H1 S1 e1 p1 r1 => by
    rw [List.append_nil]
    exact ev_growF S1 hx r1 hΦ fun v F2 As2 H2 S2 e2 p2 rv => q v F2 As2 H2 S2 (e1.trans e2) (p1.trans p2) rv
theorem ev_callWS {ms : List MC} (ha : EvA K t M E M1 xs) (hx : dats xs ≠ none) (hΦ : Φ [] xs [] (.grow ms r)) : EvD K (tCallS (FSp K Φ) Xs t) M E (M1 ++ ms.map (MC.up M1.length)) (r.up M1.length) := fun B F As σ H S Q q =>
  ha B F As σ H S _ fun vs F1 As1 H1 S1 e1 p1 r1 => ev_growF S1 hx r1 hΦ fun v F2 As2 H2 S2 e2 p2 rv => q v F2 As2 H2 S2 (e1.trans e2) (p1.trans p2) rv
/-! ### cells lent -/
/-- a value and all that it holds, as data -/
def viewR (M : List MC) : Nat → Rv → Option D
  | _, .dat d => some d
  | 0, .cel _ => none
  | n + 1, .cel k => match M[k]? with
    | some (.lst ds) => some (.lst ds)
    | some (.dct kvs) => some (.dct kvs)
    | some (.ins C fs) => some (.ins C fs)
    | some (.deep (.lst rs)) => (rs.mapM (viewR M n)).map .lst
    | some (.deep (.tup rs)) => (rs.mapM (viewR M n)).map .tup
    | some (.deep (.ins C fs)) => ((fs.map (·.2)).mapM (viewR M n)).map fun ds => .ins C ((fs.map (·.1)).zip ds)
    | _ => none
theorem mapM_some {α β : Type} {f : α → Option β} : ∀ {us : List α} {ws : List β}, us.mapM f = some ws → us.length = ws.length ∧ ∀ (i : Nat) (a : α), us[i]? = some a → ∃ b, ws[i]? = some b ∧ f a = some b
  | [], ws, h => by
    have h : ws = [] := by simpa using h.symm
    subst h
    exact ⟨rfl, fun i a e => by simp at e⟩
  | u :: us, ws, h => by
    rw [List.mapM_cons] at h
    cases c : f u with
    | none => rw [c] at h; cases h
    | some b =>
      cases c2 : us.mapM f with
      | none => rw [c, c2] at h; cases h
      | some bs =>
        rw [c, c2] at h
        have h : b :: bs = ws := Option.some.inj h
        subst h
        obtain ⟨l, g⟩ := mapM_some c2
        refine ⟨by simp [l], fun i a e => ?_⟩
        cases i with
        | zero =>
          have e : u = a := by simpa using e
          exact ⟨b, rfl, e ▸ c⟩
        | succ i => exact g i a (by simpa using e)
theorem view_R (S : Sta K B F As M σ E H) : ∀ {n : Nat} {r : Rv} {d : D} {v : V}, viewR M n r = some d → RV K F As r v → R K H d v
  | n, .dat d0, d, v, h, rv => by
    have h : some d0 = some d := by cases n <;> exact h
    cases h
    exact R.mono rv S.ex
  | 0, .cel k, d, v, h, rv => by cases h
  | n + 1, .cel k, d, v, h, ⟨a, hA, ev⟩ => by
    subst ev
    unfold viewR at h
    have all : ∀ {us : List Rv} {ds : List D} {ws : List V}, us.mapM (viewR M n) = some ds → P2 (RV K F As) us ws → P2 (R K H) ds ws := fun {us ds ws} h1 h2 => by
      obtain ⟨l, g⟩ := mapM_some h1
      refine ⟨l ▸ h2.1, fun i d w e1 e2 => ?_⟩
      have hi : i < us.length := by rw [l]; exact (List.getElem?_eq_some_iff.mp e1).1
      obtain ⟨b, e3, e4⟩ := g i _ (List.getElem?_eq_getElem hi)
      rw [e1] at e3; cases e3
      exact view_R S e4 (h2.2 i _ w (List.getElem?_eq_getElem hi) e2)
    cases q : M[k]? with
    | none => rw [q] at h; cases h
    | some mc =>
      rw [q] at h
      cases mc with
      | gone => cases h
      | lst ds =>
        cases h
        obtain ⟨_, o, ho, zs, rfl, pa⟩ := S.cell k a _ hA q (by intro z; cases z)
        exact R.lst' ho (pa.imp fun _ _ z => z.mono S.ex)
      | dct kvs =>
        cases h
        obtain ⟨_, o, ho, zs, rfl, pa⟩ := S.cell k a _ hA q (by intro z; cases z)
        exact R.dct' ho (pa.imp fun _ _ z => ⟨z.1, z.2.mono S.ex⟩)
      | ins C fs =>
        cases h
        obtain ⟨_, o, ho, dx, zs, rfl, pa⟩ := S.cell k a _ hA q (by intro z; cases z)
        exact R.ins' ho (pa.imp fun _ _ z => ⟨z.1, z.2.mono S.ex⟩)
      | deep y =>
        cases y with
        | lst rs =>
          obtain ⟨_, o, ho, zs, rfl, pa⟩ := S.cell k a _ hA q (by intro z; cases z)
          have h : (rs.mapM (viewR M n)).map D.lst = some d := h
          cases c : rs.mapM (viewR M n) with
          | none => rw [c] at h; cases h
          | some ds => rw [c] at h; cases h; exact R.lst' ho (all c pa)
        | tup rs =>
          obtain ⟨_, o, ho, zs, rfl, pa⟩ := S.cell k a _ hA q (by intro z; cases z)
          have h : (rs.mapM (viewR M n)).map D.tup = some d := h
          cases c : rs.mapM (viewR M n) with
          | none => rw [c] at h; cases h
          | some ds => rw [c] at h; cases h; exact R.tup' ho (all c pa)
        | ins C fs =>
          obtain ⟨_, o, ho, dx, zs, rfl, pa⟩ := S.cell k a _ hA q (by intro z; cases z)
          have h : ((fs.map (·.2)).mapM (viewR M n)).map (fun ds => D.ins C ((fs.map (·.1)).zip ds)) = some d := h
          cases c : (fs.map (·.2)).mapM (viewR M n) with
          | none => rw [c] at h; cases h
          | some ds =>
            rw [c] at h; cases h
            have p2 : P2 (RV K F As) (fs.map (·.2)) (zs.map (·.2)) := by
              refine ⟨by simpa using pa.1, fun i x y e1 e2 => ?_⟩
              rw [List.getElem?_map] at e1 e2
              cases c1 : fs[i]? with
              | none => rw [c1] at e1; cases e1
              | some p =>
                cases c2 : zs[i]? with
                | none => rw [c2] at e2; cases e2
                | some q => rw [c1] at e1; rw [c2] at e2; cases e1; cases e2; exact (pa.2 i p q c1 c2).2
            have p3 := all c p2
            refine R.ins' ho ⟨?_, fun i p q e1 e2 => ?_⟩
            · have := p3.1
              have := pa.1
              simp at *
              omega
            · rw [List.getElem?_zip_eq_some] at e1
              obtain ⟨e3, e4⟩ := e1
              rw [List.getElem?_map] at e3
              cases c1 : fs[i]? with
              | none => rw [c1] at e3; cases e3
              | some p0 =>
                rw [c1] at e3
                have e3 : p0.1 = p.1 := Option.some.inj e3
                refine ⟨e3 ▸ (pa.2 i p0 q c1 e2).1, p3.2 i p.2 q.2 e4 (by rw [List.getElem?_map, e2]; rfl)⟩
theorem Sta.stay (S : Sta K B F As M σ E H) (kp : ∀ a o, H a = some o → H' a = some o) : Sta K B F As M σ E H' :=
  ⟨fun a o h => kp _ _ (S.ex a o h), S.len, S.nd, fun k a mc h1 h2 h3 => by
    obtain ⟨g1, o, g2, g3⟩ := S.cell k a mc h1 h2 h3
    exact ⟨g1, o, kp _ _ g2, g3⟩, S.slots, S.bF, fun a o h hP => kp _ _ (S.bH a o h hP), S.bN, S.bA, fun a o h => by
    obtain ⟨u, hu⟩ := S.bK a o h
    exact ⟨u, kp _ _ hu⟩, fun a h => by
    obtain ⟨u, hu⟩ := S.kn a h
    exact ⟨u, kp _ _ hu⟩, S.pA⟩
/-- data that stand in no heap -/
def D.sc : D → Prop
  | .non => True
  | .bl _ => True
  | .int _ => True
  | .str _ => True
  | _ => False
theorem R.sc {d : D} (h : R K F d v) (s : d.sc) : R K F' d v := by
  cases h with
  | non => exact .non
  | bl b => exact .bl b
  | int i => exact .int i
  | str z => exact .str z
  | _ => cases s
theorem lend_in {vs : List V} {ds : List D} {n : Nat} (S1 : Sta K B F1 As1 M1 σ E H1) (hv : xs.mapM (viewR M1 n) = some ds) (r1 : P2 (RV K F1 As1) xs vs) : Sta K (Sta.self H1 H1 []) H1 [] [] (vs.map some) ((ds.map Rv.dat).map some) H1 := by
  obtain ⟨l, g⟩ := mapM_some hv
  refine ⟨Ex.refl _, rfl, List.nodup_nil, fun k a mc h => by simp at h, ⟨by simp [← l, r1.1], fun i r h => ?_⟩, Ex.refl _, fun a o h _ => h, fun a o _ h => h, fun a h => (by cases h), fun a o h => ⟨o, h⟩, fun a h => (by cases h), List.prefix_refl _⟩
  rw [List.getElem?_map, List.getElem?_map] at h
  cases c : ds[i]? with
  | none => rw [c] at h; cases h
  | some d =>
    rw [c] at h; cases h
    have hi : i < xs.length := by rw [l]; exact (List.getElem?_eq_some_iff.mp c).1
    obtain ⟨b, e3, e4⟩ := g i _ (List.getElem?_eq_getElem hi)
    rw [c] at e3; cases e3
    obtain ⟨w, hw, rw_⟩ := r1.get (List.getElem?_eq_getElem hi)
    exact ⟨w, by rw [List.getElem?_map, hw]; rfl, view_R S1 e4 rw_⟩
/-- a call that only reads: cells go in as data, a plain value comes out -/
theorem ev_lend {ds : List D} {d : D} (n : Nat) (ha : EvA K t M E M1 xs) (hv : xs.mapM (viewR M1 n) = some ds) (hΦ : Φ [] (ds.map Rv.dat) [] (.ret d)) (hs : d.sc) : EvD K (tCall (FSp K Φ) [] XX t) M E M1 (.dat d) := fun B F As σ H S Q q =>
  ha B F As σ H S _ fun vs F1 As1 H1 S1 e1 p1 r1 => by
    rw [List.append_nil]
    refine ⟨H1, [], [], ds.map Rv.dat, [], .ret d, lend_in S1 hv r1, Live.nil, hΦ, fun v F' As' M'' H' fin rv => ?_⟩
    obtain ⟨τ, En, S2⟩ := fin.sta
    exact q v F1 As1 H' (S1.stay fun a o h => S2.bH a o h (fun z => by cases z)) e1 p1 (R.sc rv hs)
/-! ### made and read -/
theorem ev_tupM (ha : EvA K t M E M1 rs) (hl : rs.length ≤ 16777216) : EvD K (tTup t) M E (M1 ++ [.deep (.tup rs)]) (.cel M1.length) := fun B F As σ H S Q q =>
  ha B F As σ H S _ fun vs F1 As1 H1 S1 e1 p1 r1 => ⟨sz (r1.1 ▸ hl), fun p hp => by
    have S2 := S1.newM (o := .tup vs) (mc := .deep (.tup rs)) hp ⟨vs, rfl, r1.imp fun _ _ z => z.mono (Ex.refl _) (List.prefix_append _ _)⟩
    exact q _ _ _ _ S2 e1 (p1.trans (List.prefix_append _ _)) ⟨p, by rw [List.getElem?_append_right (by rw [S1.len]; exact Nat.le_refl _), S1.len]; simp, rfl⟩⟩
theorem ev_lstC (ha : EvA K t M E M1 rs) (hl : rs.length ≤ 16777216) : EvD K (tLst t) M E (M1 ++ [.deep (.lst rs)]) (.cel M1.length) := fun B F As σ H S Q q =>
  ha B F As σ H S _ fun vs F1 As1 H1 S1 e1 p1 r1 => ⟨sz (r1.1 ▸ hl), fun p hp => by
    have S2 := S1.newM (o := .lst vs) (mc := .deep (.lst rs)) hp ⟨vs, rfl, r1.imp fun _ _ z => z.mono (Ex.refl _) (List.prefix_append _ _)⟩
    exact q _ _ _ _ S2 e1 (p1.trans (List.prefix_append _ _)) ⟨p, by rw [List.getElem?_append_right (by rw [S1.len]; exact Nat.le_refl _), S1.len]; simp, rfl⟩⟩
theorem od_ixTc {k : Nat} {i : Int} (hk : M[k]? = some (.deep (.tup rs))) (ha : atI rs i = some r) : OpD K (rIxT K) M (.cel k) (rint i) M r := OpD.pure fun B F H As σ E v w S r1 r2 Q q => by
  obtain ⟨a, hA, rfl⟩ := r1
  cases R.int_inv r2
  obtain ⟨_, o, ho, vs, rfl, h3⟩ := S.cell k a _ hA hk (by intro z; cases z)
  unfold atI at ha
  rw [h3.1] at ha
  cases e : ixN vs.length i with
  | none => rw [e] at ha; cases ha
  | some j =>
    rw [e] at ha
    obtain ⟨y, hy, ry⟩ := h3.get ha
    exact ⟨a, vs, i, y, rfl, rfl, SqT.of ho, by unfold atI; rw [e]; exact hy, q y ry⟩
theorem od_ixLc {k : Nat} {i : Int} (hk : M[k]? = some (.deep (.lst rs))) (ha : atI rs i = some r) : OpD K (rIxL K) M (.cel k) (rint i) M r := OpD.pure fun B F H As σ E v w S r1 r2 Q q => by
  obtain ⟨a, hA, rfl⟩ := r1
  cases R.int_inv r2
  obtain ⟨_, o, ho, vs, rfl, h3⟩ := S.cell k a _ hA hk (by intro z; cases z)
  unfold atI at ha
  rw [h3.1] at ha
  cases e : ixN vs.length i with
  | none => rw [e] at ha; cases ha
  | some j =>
    rw [e] at ha
    obtain ⟨y, hy, ry⟩ := h3.get ha
    exact ⟨a, vs, i, y, rfl, rfl, SqL.of ho, by unfold atI; rw [e]; exact hy, q y ry⟩
end
end DL
set_option Elab.async false
set_option linter.all false
set_option maxRecDepth 100000
set_option maxHeartbeats 2000000
/-! DL: list(range(a, b, c)), while loops. -/
namespace DL
open PySem L2 PySem.Spec PyProof.Rows
open Evl (Ex)
/-- n numbers from i on, c apart -/
def stV (i c : Int) (n : Nat) : List V := (List.range n).map fun (k : Nat) => V.int (i + (k : Int) * c)
def stD (i c : Int) (n : Nat) : List Int := (List.range n).map fun (k : Nat) => i + (k : Int) * c
def tLstRg3 (ta : TA) : TE := fun σ H Q => ta σ H fun vs H1 => ∃ (i j c : Int) (n : Nat), vs = [.int i, .int j, .int c] ∧ RgC i j c n ∧ n ≤ 16777216 ∧ ∀ q, H1 q = none → Q (.ref q) (upd H1 q (.lst (stV i c n)))
theorem vals_st {i c : Int} {n : Nat} {acc : Array Value} (h : ItemsOf (fun k v => ∃ t, v = .int (i + k * c) t) acc n) : Vals (stV i c n) acc.toList := by
  have e : acc.toList.length = n := by rw [Array.length_toList]; exact h.1
  unfold stV
  rw [← e]
  refine vals_of_get acc.toList _ fun j u hj => ?_
  obtain ⟨t, rfl⟩ := h.2 j u (by rw [← hj, Array.getElem?_toList])
  exact ⟨t, rfl⟩
section
variable {X : Cx}
theorem pe_listRg3 {a b c : Expr} {ta : TA} {p p2 pos pos2 : Pos} (hc : X.calm = true) (hg : Gl X "list") (hm : X.mg "list" = none) (hg2 : Gl X "range") (hm2 : X.mg "range" = none) (ha : PA X [a, b, c] ta)
    (hs : starEach [a, b, c] X.env = (false, eval a X.env) :: starEach [b, c] X.env := by rfl) (hpl : (backTo pos2 (starEach [b, c] X.env)).any (·.1) = false := by rfl)
    (na : starEach [.Call (.Name "range" p2) [a, b, c] [] pos2] X.env = (false, eval (.Call (.Name "range" p2) [a, b, c] [] pos2) X.env) :: starEach [] X.env := by rfl) :
    PE X (.Call (.Name "list" p) [.Call (.Name "range" p2) [a, b, c] [] pos2] [] pos) (tLstRg3 ta) := by
  refine ⟨fun pins s σ H Q I h => ?_⟩
  refine Call_ (ld_blt I hg hm boot_list (PyProof.Rows.callWith_type1 (args_cons (Call_ (ld_blt I hg2 hm2 boot_range (PyProof.Rows.callWith_type1 (thn (ha.run pos2 pins s σ H _ I h) fun us s1 ⟨vs, H1, I1, r1, q1⟩ => ?_) hs hpl))) na) na))
  obtain ⟨i, j, k, n, e, ⟨c0, c1, c2, c3⟩, hn, q⟩ := q1
  subst e
  cases r1 with
  | cons r rr =>
    cases rr with
    | cons r' rr =>
      cases rr with
      | cons r'' rr =>
        cases rr
        obtain ⟨t, rfl⟩ := r
        obtain ⟨t', rfl⟩ := r'
        obtain ⟨t'', rfl⟩ := r''
        refine call_range_3 c0 (args_nil ?_) (.inl (PyProof.noPylong_small c1))
        have I2 : Inv X pins σ H1 { s1 with heap := s1.heap.push { cls := .type "range", data := .fields #[.int i t, .int j t', .int k t''] } } := I1.kept (t' := s1.toks) fun b o e => Heap.get?_push_of_some _ e
        refine call_list_range (n := n) (I2.ok.hd hc) (IsRange.new ..) c2 c3 (by exact hn) fun h' tk acc c' hk e' hi => ?_
        refine ⟨.ref _, upd H1 _ (.lst (stV i k n)), I2.laid hk (Nat.le_refl _) (show ObjOk X.prog X.w _ _ _ (.lst (stV i k n)) from ⟨?_, acc.toList, c', vals_st hi, ?_⟩), rfl, q _ ?_⟩
        · unfold stV; rw [List.length_map, List.length_range, sizeLine_eq]; omega
        · rw [Array.toArray_toList]; exact e'
        · exact I2.hok.fresh (Nat.le_refl _)
end
/-- a if c else b, as a test -/
def tIfT (c ta tb : TT) : TT := fun σ H Q => c σ H fun d H1 => if d = true then ta σ H1 Q else tb σ H1 Q
theorem pt_ifExp {X : Cx} {c a b : Expr} {pos : Pos} {tc ta tb : TT} (hc : PT X c tc) (ha : PT X a ta) (hb : PT X b tb) : PT X (.IfExp c a b pos) (tIfT tc ta tb) := by
  refine ⟨fun pins s σ H Q I h => ?_⟩
  unfold PySem.isTrue
  refine wpAny_bind (thn (hc.run pins s σ H _ I h) fun d s1 ⟨H1, I1, q1⟩ => ?_)
  cases d with
  | true => exact ha.run pins s1 σ H1 Q I1 q1
  | false => exact hb.run pins s1 σ H1 Q I1 q1
/-- how many numbers range(a, b, c) has, c above 0 -/
def rgN (a b c : Int) : Nat := if a < b then ((b - a - 1) / c + 1).toNat else 0
theorem rgC_up {i j c : Int} (hi : 0 ≤ i ∧ i ≤ 16777216) (hj : 0 ≤ j ∧ j ≤ 16777216) (hc : 1 ≤ c ∧ c ≤ 16777216) : RgC i j c (rgN i j c) := by
  have size : Builtin.Range.rangeSize i j c = (rgN i j c : Nat) := by
    unfold Builtin.Range.rangeSize rgN
    rw [if_pos (by omega)]
    split
    · have : 0 ≤ (j - i - 1) / c := Int.ediv_nonneg (by omega) (by omega)
      omega
    · rfl
  refine ⟨by omega, by omega, ?_, size⟩
  unfold Builtin.Range.small
  rw [size]
  have le : (rgN i j c : Int) ≤ 16777217 := by
    unfold rgN
    split
    · have : (j - i - 1) / c ≤ j - i - 1 := Int.ediv_le_self _ (by omega)
      omega
    · omega
  rw [if_pos (show c > 0 by omega)]
  simp only [Builtin.Range.rangeFitsLong, Bool.and_eq_true, Bool.or_eq_true, decide_eq_true_eq, beq_iff_eq]
  omega
section
variable {K : PySem.W.Frag} {B : Base} {F F' F1 H H' H1 : Hp} {As As' As1 : List Addr} {M M0 M1 M2 M3 M'' : List MC} {σ : L2.St} {E : List (Option Rv)} {ta tb te : TE} {r x : Rv} {xs rs : List Rv} {t : TA} {v : V} {D : Ends} {u u' : TS}
theorem ev_listRg3 {a b c : Int} (ha : EvA K t M E M1 [rint a, rint b, rint c]) (ha1 : 0 ≤ a ∧ a ≤ 16777216) (hb : 0 ≤ b ∧ b ≤ 16777215) (hc : 1 ≤ c ∧ c ≤ 16777216) : EvD K (tLstRg3 t) M E M1 (rints (stD a c (rgN a b c))) := fun B F As σ H S Q q =>
  ha B F As σ H S _ fun vs F1 As1 H1 S1 e1 p1 r1 => by
    obtain ⟨v1, ws, rfl, h1, r1⟩ := r1.inv_cons
    obtain ⟨v2, v3, rfl, h2, h3⟩ := r1.two
    cases R.int_inv h1; cases R.int_inv h2; cases R.int_inv h3
    refine ⟨a, b, c, rgN a b c, rfl, rgC_up ha1 ⟨hb.1, by omega⟩ hc, ?_, fun p hp => ?_⟩
    · unfold rgN
      split
      · have : (b - a - 1) / c ≤ b - a - 1 := Int.ediv_le_self _ (by omega)
        omega
      · omega
    · have e : stV a c (rgN a b c) = (stD a c (rgN a b c)).map V.int := by
        unfold stV stD
        rw [List.map_map]; rfl
      rw [e]
      exact ev_lstNew S1 hp (P2.ofInts _) fun u F' As' H' S' e' p' r' => q u F' As' H' S' (e1.trans e') (p1.trans p') r'
theorem et_ifT {c tt tu : TT} {b d : Bool} (h : EvT K c M E M1 b) (h1 : b = true → EvT K tt M1 E M2 d) (h2 : b = false → EvT K tu M1 E M2 d) : EvT K (tIfT c tt tu) M E M2 d := fun B F As σ H S Q q => h B F As σ H S _ fun F1 As1 H1 S1 e1 p1 => by
  cases b with
  | true => exact h1 rfl B F1 As1 σ H1 S1 Q fun F2 As2 H2 S2 e2 p2 => q F2 As2 H2 S2 (e1.trans e2) (p1.trans p2)
  | false => exact h2 rfl B F1 As1 σ H1 S1 Q fun F2 As2 H2 S2 e2 p2 => q F2 As2 H2 S2 (e1.trans e2) (p1.trans p2)
/-- while: P m, m turns at most are left -/
theorem s_while {c : TT} (S : Sta K B F As M σ E H) (P : Nat → List MC → List (Option Rv) → Prop) (m : Nat) (h0 : P m M E)
    (hb : ∀ m M E, P m M E → ∃ b M1, EvT K c M E M1 b ∧ (b = true → Nxt K B M1 E (u { D with nx := fun σ' H' => ∃ m', m' < m ∧ NxP K B (P m') σ' H', ct := fun σ' H' => ∃ m', m' < m ∧ NxP K B (P m') σ' H', bk := D.nx })) ∧ (b = false → Nxt K B M1 E D.nx)) : tWhile c u D σ H := by
  refine ⟨fun m σ' H' => NxP K B (P m) σ' H', ⟨m, F, As, M, E, S, h0⟩, ?_⟩
  rintro m σ' H' ⟨F2, As2, M2, E2, S2, hP⟩
  obtain ⟨b, M3, hc, h1, h2⟩ := hb m M2 E2 hP
  refine hc B F2 As2 σ' H' S2 _ fun F3 As3 H3 S3 _ _ => ?_
  cases b with
  | true =>
    rw [if_pos rfl]
    exact ⟨_, fun σ' H' h => h, h1 rfl _ _ _ _ S3⟩
  | false =>
    rw [if_neg Bool.false_ne_true]
    exact h2 rfl _ _ _ _ S3
theorem q_while {c : TT} (S : Sta K B F As M σ E H) (P : Nat → List MC → List (Option Rv) → Prop) (m : Nat) (h0 : P m M E)
    (hb : ∀ m M E, P m M E → ∃ b M1, EvT K c M E M1 b ∧ (b = true → Nxt K B M1 E (u { D with nx := fun σ' H' => ∃ m', m' < m ∧ NxP K B (P m') σ' H', ct := fun σ' H' => ∃ m', m' < m ∧ NxP K B (P m') σ' H', bk := u' D })) ∧ (b = false → Nxt K B M1 E (u' D))) : tSeq (tWhile c u) u' D σ H := s_while (D := { D with nx := u' D }) S P m h0 hb
end
end DL
set_option Elab.async false
set_option linter.all false
set_option maxRecDepth 100000
set_option maxHeartbeats 2000000
/-! DL: the place of a number in a list. -/
namespace DL
open PySem L2
open Evl (Ex)
def idxI (n : Int) : List Int → Nat
  | [] => 0
  | x :: xs => if x = n then 0 else idxI n xs + 1
theorem idxI_at {n : Int} : ∀ {xs : List Int}, n ∈ xs → xs[idxI n xs]? = some n ∧ idxI n xs < xs.length ∧ ∀ j, j < idxI n xs → xs[j]? ≠ some n
  | [], h => by cases h
  | x :: xs, h => by
    unfold idxI
    by_cases c : x = n
    · rw [if_pos c, c]
      exact ⟨rfl, by simp, fun j hj => by omega⟩
    · rw [if_neg c]
      have h : n ∈ xs := by
        rcases List.mem_cons.mp h with q | q
        · exact absurd q.symm c
        · exact q
      obtain ⟨h1, h2, h3⟩ := idxI_at h
      refine ⟨h1, by rw [List.length_cons]; omega, fun j hj => ?_⟩
      cases j with
      | zero => intro z; exact c (by simpa using z)
      | succ j => exact h3 j (by omega)
section
variable {K : PySem.W.Frag} {M M1 M2 : List MC} {E : List (Option Rv)} {ta tb : TE} {x : Rv}
theorem ev_idxI {ns : List Int} {n : Int} (ho : EvD K ta M E M1 x) (hi : EvD K tb M1 E M2 (rint n)) (h1 : IsLst M1 x (ns.map D.int)) (h2 : IsLst M2 x (ns.map D.int)) (hn : n ∈ ns) :
    EvD K (tBM K "list" (rIndex K) ta (tCons tb tNil)) M E M2 (rint (idxI n ns : Nat)) := fun B F As σ H S Q q =>
  ho B F As σ H S _ fun v F1 As1 H1 S1 e1 p1 r1 => by
    obtain ⟨a0, vs0, rfl, ha0, pa0⟩ := h1.view S1 r1
    refine ⟨.inl ⟨rfl, _, SqL.of ha0⟩, hi B F1 As1 σ H1 S1 _ fun w F2 As2 H2 S2 e2 p2 r2 => ?_⟩
    obtain ⟨a, vs, ev2, ha, pa⟩ := h2.view S2 (r1.m e2 p2)
    have e := P2.ints pa
    subst e
    cases R.int_inv r2
    obtain ⟨g1, g2, g3⟩ := idxI_at hn
    refine ⟨a, ns.map V.int, .int n, idxI n ns, .int n, ev2, rfl, SqL.of ha, rfl, all_flat ns, by rw [List.getElem?_map, g1]; rfl, by simp [eqV], fun m z' hm hz => ?_, q _ F2 As2 H2 S2 (e1.trans e2) (p1.trans p2) (.int _)⟩
    rw [List.getElem?_map] at hz
    cases c : ns[m]? with
    | none => rw [c] at hz; cases hz
    | some k =>
      rw [c] at hz; cases hz
      have : k ≠ n := fun z => g3 m hm (by rw [c, z])
      simp [eqV, this]
/-- [..] * n, a list that will be changed -/
theorem od_repM {ds : List D} {k : Int} (h1 : IsLst M x ds) (hk : -(2 ^ 63) ≤ k ∧ k < 2 ^ 63) (hl : ds.length * k.toNat ≤ 16777216) : OpD K rRep M x (rint k) (M ++ [.lst (List.replicate k.toNat ds).flatten]) (.cel M.length) := fun B F As σ E H v w S r1 r2 Q q => by
  obtain ⟨a, vs, rfl, ha, pa⟩ := h1.view S r1
  refine ⟨a, k, vs, rfl, R.int_inv r2, ha, hk.1, hk.2, sz (by rw [← pa.1]; exact hl), fun p hp => ?_⟩
  have S2 := S.newM (o := .lst (List.replicate k.toNat vs).flatten) (mc := .lst (List.replicate k.toNat ds).flatten) hp ⟨_, rfl, pa.rep _⟩
  exact q _ _ _ _ S2 (Ex.refl F) (List.prefix_append _ _) ⟨p, by rw [List.getElem?_append_right (by rw [S.len]; exact Nat.le_refl _), S.len]; simp, rfl⟩
/-- a row by its places -/
def arr (n : Nat) (f : Nat → Int) : List Int := (List.range n).map f
theorem arr_len {n : Nat} {f : Nat → Int} : (arr n f).length = n := by unfold arr; rw [List.length_map, List.length_range]
theorem arr_at {n k : Nat} {f : Nat → Int} (h : k < n) : gI (arr n f) (k : Int) = f k := by
  show (arr n f).getD k 0 = f k
  unfold arr
  rw [List.getD_eq_getElem?_getD, List.getElem?_map, List.getElem?_range h]; rfl
theorem arr_ext {n : Nat} {f g : Nat → Int} (h : ∀ k, k < n → f k = g k) : arr n f = arr n g := List.map_congr_left fun k hk => h k (List.mem_range.mp hk)
theorem arr_set {n k : Nat} {f : Nat → Int} {v : Int} : (arr n f).set k v = arr n fun m => if m = k then v else f m := by
  refine List.ext_getElem? fun i => ?_
  by_cases hi : i < n
  · by_cases e : k = i
    · subst e
      rw [List.getElem?_set_self (by rw [arr_len]; exact hi)]
      unfold arr
      rw [List.getElem?_map, List.getElem?_range hi]
      show some v = some (if k = k then v else f k)
      rw [if_pos rfl]
    · rw [List.getElem?_set_ne e]
      unfold arr
      rw [List.getElem?_map, List.getElem?_map, List.getElem?_range hi]
      show some (f i) = some (if i = k then v else f i)
      rw [if_neg (fun z => e z.symm)]
  · rw [List.getElem?_eq_none (by rw [List.length_set, arr_len]; omega), List.getElem?_eq_none (by rw [arr_len]; omega)]
theorem arr_rep {n : Nat} {z : Int} : List.replicate n z = arr n fun _ => z := by
  unfold arr
  rw [List.map_const', List.length_range]
theorem et_andG {t u : TT} {b c : Bool} {M3 : List MC} (h1 : EvT K t M E M1 b) (h2 : b = true → EvT K u M1 E M3 c) (h3 : b = false → M1 = M3) : EvT K (tAnd t u) M E M3 (b && c) := fun B F As σ H S Q q => h1 B F As σ H S _ fun F1 As1 H1 S1 e1 p1 => by
  cases b with
  | true => exact h2 rfl B F1 As1 σ H1 S1 Q fun F2 As2 H2 S2 e2 p2 => q F2 As2 H2 S2 (e1.trans e2) (p1.trans p2)
  | false => exact q F1 As1 H1 (h3 rfl ▸ S1) e1 p1
theorem get_set {k0 : Nat} {x y : MC} (hk : M[k0]? = some x) : (M.set k0 y)[k0]? = some y := List.getElem?_set_self (List.getElem?_eq_some_iff.mp hk).1
variable {B : Base} {F H : Hp} {As : List Addr} {σ : L2.St} {De : Ends} {uu uv : TS}
/-- for x, y in xs, xs a list of pairs -/
theorem s_forT2 {tl : TE} {i j : Nat} {ds : List D} (S : Sta K B F As M σ E H) (ha : EvD K tl M E M1 (.dat (.lst ds))) (h2 : ∀ d ∈ ds, ∃ d1 d2, d = .tup [d1, d2]) (P : Nat → List MC → List (Option Rv) → Prop) (h0 : P 0 M1 E)
    (hb : ∀ (B' : Base), Cv K B' B → ∀ (n : Nat) (d1 d2 : D) M E, ds[n]? = some (.tup [d1, d2]) → P n M E → Nxt K B' M ((E.set i (some (.dat d1))).set j (some (.dat d2))) (uu { De with nx := NxP K B' (P (n + 1)), ct := NxP K B' (P (n + 1)), bk := De.nx }))
    (hd : ∀ M E, P ds.length M E → Nxt K B M E De.nx) : tFor (iList K tl) (gTup K 2 (gCons (gName i) (gCons (gName j) gNil))) uu De σ H :=
  s_forG (st := fun E d E' => ∃ d1 d2, d = .tup [d1, d2] ∧ E' = (E.set i (some (.dat d1))).set j (some (.dat d2))) S ha (fun {B F As M σ E H d v Q} hm S rd k => by
    obtain ⟨d1, d2, rfl⟩ := h2 d hm
    obtain ⟨a, vs, rfl, hA, pa⟩ := R.tup_inv rd
    obtain ⟨v1, ws, rfl, r1, pa⟩ := pa.inv_cons
    obtain ⟨v2, ws, rfl, r2, pa⟩ := pa.inv_cons
    have := pa.inv_nil; subst this
    exact ⟨a, [v1, v2], rfl, SqT.of (S.ex _ _ hA), rfl, v1, [v2], rfl, v2, [], rfl, rfl, k _ _ ⟨d1, d2, rfl, rfl⟩ ((S.set (r := .dat d1) r1).set (r := .dat d2) r2)⟩)
    P h0 (fun B' cv n d M E E' h1 h2 h3 => by
      obtain ⟨d1, d2, rfl, rfl⟩ := h3
      exact hb B' cv n d1 d2 M E h1 h2) hd
theorem q_forT2 {tl : TE} {i j : Nat} {ds : List D} (S : Sta K B F As M σ E H) (ha : EvD K tl M E M1 (.dat (.lst ds))) (h2 : ∀ d ∈ ds, ∃ d1 d2, d = .tup [d1, d2]) (P : Nat → List MC → List (Option Rv) → Prop) (h0 : P 0 M1 E)
    (hb : ∀ (B' : Base), Cv K B' B → ∀ (n : Nat) (d1 d2 : D) M E, ds[n]? = some (.tup [d1, d2]) → P n M E → Nxt K B' M ((E.set i (some (.dat d1))).set j (some (.dat d2))) (uu { De with nx := NxP K B' (P (n + 1)), ct := NxP K B' (P (n + 1)), bk := uv De }))
    (hd : ∀ M E, P ds.length M E → Nxt K B M E (uv De)) : tSeq (tFor (iList K tl) (gTup K 2 (gCons (gName i) (gCons (gName j) gNil))) uu) uv De σ H := s_forT2 (De := { De with nx := uv De }) S ha h2 P h0 hb hd
theorem rints_app (ns ms : List Int) : Rv.dat (.lst (ns.map D.int ++ ms.map D.int)) = rints (ns ++ ms) := by
  show Rv.dat (.lst _) = Rv.dat (.lst ((ns ++ ms).map D.int))
  rw [List.map_append]
end
end DL
set_option Elab.async false
set_option linter.all false
set_option maxRecDepth 100000
set_option maxHeartbeats 2000000
/-! DL: calls in general. What a def's promise makes of cells that are handed in, by numbers of the caller's. -/
namespace DL
open PySem L2
open Evl (Ex)
def Rv.via (ks : List Nat) : Rv → Rv
  | .dat d => .dat d
  | .cel j => .cel (ks.getD j 0)
def Rv.ok (n : Nat) : Rv → Prop
  | .dat _ => True
  | .cel j => j < n
/-- the cells ks become ms -/
def setAll : List MC → List Nat → List MC → List MC
  | M, k :: ks, m :: ms => setAll (M.set k m) ks ms
  | M, _, _ => M
theorem setAll_len : ∀ {ks : List Nat} {M ms : List MC}, (setAll M ks ms).length = M.length
  | [], M, ms => by cases ms <;> rfl
  | k :: ks, M, [] => rfl
  | k :: ks, M, m :: ms => by
    show (setAll (M.set k m) ks ms).length = _
    rw [setAll_len, List.length_set]
theorem setAll_off : ∀ {ks : List Nat} {M ms : List MC} {i : Nat}, i ∉ ks → (setAll M ks ms)[i]? = M[i]?
  | [], M, ms, i, _ => by cases ms <;> rfl
  | k :: ks, M, [], i, _ => rfl
  | k :: ks, M, m :: ms, i, h => by
    show (setAll (M.set k m) ks ms)[i]? = _
    rw [setAll_off (fun z => h (List.mem_cons_of_mem _ z)), List.getElem?_set_ne (fun z => h (by rw [← z]; exact List.mem_cons_self ..))]
theorem setAll_on : ∀ {ks : List Nat} {M ms : List MC} {j k : Nat} {m : MC}, ks.Nodup → ks[j]? = some k → ms[j]? = some m → k < M.length → (setAll M ks ms)[k]? = some m
  | [], M, ms, j, k, m, _, h, _, _ => by simp at h
  | k0 :: ks, M, [], j, k, m, _, _, h, _ => by simp at h
  | k0 :: ks, M, m0 :: ms, j, k, m, nd, h1, h2, hk => by
    show (setAll (M.set k0 m0) ks ms)[k]? = _
    obtain ⟨n1, n2⟩ := List.nodup_cons.mp nd
    cases j with
    | zero =>
      have h1 : k0 = k := by simpa using h1
      have h2 : m0 = m := by simpa using h2
      subst h1; subst h2
      rw [setAll_off n1, List.getElem?_set_self hk]
    | succ j => exact setAll_on n2 (by simpa using h1) (by simpa using h2) (by rw [List.length_set]; exact hk)
section
variable {K : PySem.W.Frag} {B : Base} {F F' F1 H H' H1 : Hp} {As As' As1 Ac : List Addr} {M M0 M1 M2 M3 M'' Mc Mc' : List MC} {σ : L2.St} {E : List (Option Rv)} {ta tb te : TE} {r x : Rv} {xs rs xc : List Rv} {Φ : List MC → List Rv → List MC → Out → Prop} {XX : XK} {Xs : L2.St → XK} {t : TA} {v : V} {ks : List Nat} {vs : List V} {d : D} {mc : MC}
/-- the cells ks of M1 are Mc, handed in with the arguments xc -/
structure Hand (M1 : List MC) (ks : List Nat) (Mc : List MC) (xc : List Rv) : Prop where
  nd : ks.Nodup
  len : Mc.length = ks.length
  at_ : ∀ (j k : Nat), ks[j]? = some k → ∃ mc, Mc[j]? = some mc ∧ M1[k]? = some mc ∧ ¬ mc.bad
  ok : ∀ x ∈ xc, x.ok ks.length
theorem Hand.none (h : dats xs ≠ none) : Hand M1 [] [] xs := ⟨List.nodup_nil, rfl, fun j k z => by simp at z, fun x hx => by
  obtain ⟨ds, e⟩ := Option.ne_none_iff_exists'.mp h
  rw [dats_eq e] at hx
  obtain ⟨d, _, rfl⟩ := List.mem_map.mp hx
  exact trivial⟩
theorem via_dats {ks : List Nat} (h : dats xs ≠ none) : xs.map (Rv.via ks) = xs := by
  obtain ⟨ds, e⟩ := Option.ne_none_iff_exists'.mp h
  rw [dats_eq e, List.map_map]
  rfl
theorem Hand.one {k : Nat} (hk : M1[k]? = some mc) (hb : ¬ mc.bad) (h : ∀ x ∈ xc, x.ok 1) : Hand M1 [k] [mc] xc := ⟨by simp, rfl, fun j k' z => by
  cases j with
  | zero => cases z; exact ⟨mc, rfl, hk, hb⟩
  | succ j => simp at z, h⟩
theorem Hand.get (W : Hand M1 ks Mc xc) (S1 : Sta K B F1 As1 M1 σ E H1) {j k : Nat} (h : ks[j]? = some k) : ∃ a, As1[k]? = some a ∧ (ks.map fun k => As1.getD k 0)[j]? = some a := by
  obtain ⟨mc, _, h2, _⟩ := W.at_ j k h
  have hl : k < As1.length := by rw [S1.len]; exact (List.getElem?_eq_some_iff.mp h2).1
  refine ⟨As1[k], List.getElem?_eq_getElem hl, ?_⟩
  rw [List.getElem?_map, h]
  show some (As1.getD k 0) = _
  rw [List.getD_eq_getElem?_getD, List.getElem?_eq_getElem hl]; rfl
theorem Hand.inv (W : Hand M1 ks Mc xc) (S1 : Sta K B F1 As1 M1 σ E H1) {j : Nat} {a : Addr} (h : (ks.map fun k => As1.getD k 0)[j]? = some a) : ∃ k, ks[j]? = some k ∧ As1[k]? = some a := by
  rw [List.getElem?_map] at h
  cases c : ks[j]? with
  | none => rw [c] at h; cases h
  | some k =>
    obtain ⟨b, h1, h2⟩ := W.get S1 c
    rw [List.getElem?_map, h, ] at h2
    exact ⟨k, rfl, by rw [h1, ← h2]⟩
theorem Hand.nodup (S1 : Sta K B F1 As1 M1 σ E H1) : ∀ {ks : List Nat}, ks.Nodup → (∀ k ∈ ks, k < As1.length) → (ks.map fun k => As1.getD k 0).Nodup
  | [], _, _ => List.nodup_nil
  | k :: ks, nd, hl => by
    obtain ⟨n1, n2⟩ := List.nodup_cons.mp nd
    rw [List.map_cons, List.nodup_cons]
    refine ⟨fun z => ?_, Hand.nodup S1 n2 fun k' h => hl k' (List.mem_cons_of_mem _ h)⟩
    obtain ⟨k', h1, h2⟩ := List.mem_map.mp z
    have g1 := hl k (List.mem_cons_self ..)
    have g2 := hl k' (List.mem_cons_of_mem _ h1)
    rw [List.getD_eq_getElem?_getD, List.getD_eq_getElem?_getD, List.getElem?_eq_getElem g1, List.getElem?_eq_getElem g2] at h2
    have h2 : As1[k'] = As1[k] := h2
    have := S1.uniq (j := k') (k := k) (a := As1[k]) (by rw [List.getElem?_eq_getElem g2, h2]) (List.getElem?_eq_getElem g1)
    exact n1 (this ▸ h1)
theorem call_in (S1 : Sta K B F1 As1 M1 σ E H1) (W : Hand M1 ks Mc xc) (r1 : P2 (RV K F1 As1) (xc.map (Rv.via ks)) vs) :
    Sta K (Sta.self F1 H1 (ks.map fun k => As1.getD k 0)) F1 (ks.map fun k => As1.getD k 0) Mc (vs.map some) (xc.map some) H1 := by
  have bound : ∀ k ∈ ks, k < As1.length := fun k h => by
    obtain ⟨j, hj⟩ := List.getElem?_of_mem h
    obtain ⟨a, h1, _⟩ := W.get S1 hj
    exact (List.getElem?_eq_some_iff.mp h1).1
  refine ⟨S1.ex, by rw [List.length_map, W.len], Hand.nodup S1 W.nd bound, fun j a mc h1 h2 h3 => ?_, ⟨by have := r1.1; simp at this ⊢; exact this, fun i r h => ?_⟩, Ex.refl F1, fun b o h _ => h, fun b o _ h => h, fun b h => .inl h, fun b o h => ⟨o, h⟩, fun b h => ?_, List.prefix_refl _⟩
  · obtain ⟨k, g1, g2⟩ := W.inv S1 h1
    obtain ⟨m, g3, g4, g5⟩ := W.at_ j k g1
    rw [h2] at g3; cases g3
    obtain ⟨z1, o, z2, z3⟩ := S1.cell k a mc g2 g4 h3
    exact ⟨z1, o, z2, z3.flat (MC.bad_deep g5)⟩
  · rw [List.getElem?_map] at h
    cases c : xc[i]? with
    | none => rw [c] at h; cases h
    | some y =>
      rw [c] at h
      have h : y = r := by simpa using h
      subst h
      obtain ⟨v, hv, rv⟩ := r1.get (i := i) (x := y.via ks) (by rw [List.getElem?_map, c]; rfl)
      refine ⟨v, by rw [List.getElem?_map, hv]; rfl, ?_⟩
      cases y with
      | dat d => exact rv
      | cel j =>
        have hj : j < ks.length := W.ok _ (List.mem_of_getElem? c)
        obtain ⟨a, h1, rfl⟩ := rv
        have e1 : ks[j]? = some ks[j] := List.getElem?_eq_getElem hj
        have e2 : ks.getD j 0 = ks[j] := by rw [List.getD_eq_getElem?_getD, e1]; rfl
        rw [e2] at h1
        obtain ⟨b, h2, h3⟩ := W.get S1 e1
        rw [h1] at h2; cases h2
        exact ⟨a, h3, rfl⟩
  · obtain ⟨j, hj⟩ := List.getElem?_of_mem h
    obtain ⟨k, g1, g2⟩ := W.inv S1 hj
    exact S1.kn b (List.mem_of_getElem? g2)
theorem call_out (S1 : Sta K B F1 As1 M1 σ E H1) (W : Hand M1 ks Mc xc) (fin : Fin K F1 H1 (ks.map fun k => As1.getD k 0) Mc' F' H' As' M'') (hf : ∀ m ∈ Mc', ¬ m.isDeep) :
    Sta K B F' As1 (setAll M1 ks Mc') σ E H' ∧ Ex F1 F' := by
  obtain ⟨τ, En, S2⟩ := fin.sta
  obtain ⟨tl, htl⟩ := fin.pre
  have lM : Mc'.length = ks.length := by rw [fin.len, List.length_map]
  have kp : ∀ b o, H1 b = some o → b ∉ (ks.map fun k => As1.getD k 0) → H' b = some o := fun b o h n => S2.bH b o h n
  have sub : ∀ b, b ∈ (ks.map fun k => As1.getD k 0) → b ∈ As1 := fun b h => by
    obtain ⟨j, hj⟩ := List.getElem?_of_mem h
    obtain ⟨k, _, g2⟩ := W.inv S1 hj
    exact List.mem_of_getElem? g2
  refine ⟨⟨S2.ex, by rw [setAll_len]; exact S1.len, S1.nd, fun k a m h1 h2 h3 => ?_, S1.slots.mono S2.bF (List.prefix_refl _), S1.bF.trans S2.bF, fun b o h hP => ?_, fun b o h h0 => ?_, S1.bA, fun b o h => ?_, fun b h => ?_, S1.pA⟩, S2.bF⟩
  · by_cases hk : k ∈ ks
    · obtain ⟨j, hj⟩ := List.getElem?_of_mem hk
      obtain ⟨b, g1, g2⟩ := W.get S1 hj
      rw [h1] at g1; cases g1
      have hjl : j < ks.length := (List.getElem?_eq_some_iff.mp hj).1
      have e1 : Mc'[j]? = some Mc'[j] := List.getElem?_eq_getElem (lM ▸ hjl)
      have e2 := setAll_on (M := M1) W.nd hj e1 (by rw [← S1.len]; exact (List.getElem?_eq_some_iff.mp h1).1)
      rw [e2] at h2; cases h2
      have eA : As'[j]? = some a := prefix_get ⟨tl, htl⟩ g2
      have eM : M''[j]? = some Mc'[j] := by
        have e3 := fin.cut
        rw [List.length_map] at e3
        have e4 : (M''.take ks.length)[j]? = some Mc'[j] := by rw [e3]; exact e1
        rw [List.getElem?_take, if_pos hjl] at e4
        exact e4
      obtain ⟨z1, o, z2, z3⟩ := S2.cell j a _ eA eM h3
      exact ⟨z1, o, z2, z3.flat (hf _ (List.mem_of_getElem? e1))⟩
    · rw [setAll_off hk] at h2
      obtain ⟨z1, o, z2, z3⟩ := S1.cell k a m h1 h2 h3
      have na : a ∉ (ks.map fun k => As1.getD k 0) := fun z => by
        obtain ⟨j, hj⟩ := List.getElem?_of_mem z
        obtain ⟨k', g1, g2⟩ := W.inv S1 hj
        exact hk (S1.uniq h1 g2 ▸ List.mem_of_getElem? g1)
      exact ⟨S2.bN a o z2 z1, o, kp _ _ z2 na, z3.mono S2.bF⟩
  · refine kp _ _ (S1.bH b o h hP) fun z => ?_
    rcases S1.bA b (sub b z) with q | q
    · exact hP q
    · rw [q] at h; cases h
  · obtain ⟨w, hw⟩ := S1.bK b o h
    exact S2.bN b w hw (S1.bN b o h h0)
  · obtain ⟨w, hw⟩ := S1.bK b o h
    exact S2.bK b w hw
  · obtain ⟨w, hw⟩ := S1.kn b h
    exact S2.bK b w hw
/-- a cell that came along -/
theorem Sta.more {a : Addr} {o : HO} (S : Sta K B F As M σ E H) (hF : F a = none) (hH : H a = some o) (hm : MCR K F (As ++ [a]) mc o) (hA : a ∉ As) (hB : B.H0 a = none) : Sta K B F (As ++ [a]) (M ++ [mc]) σ E H := by
  refine ⟨S.ex, by rw [List.length_append, List.length_append, S.len]; rfl, ?_, fun k c m h1 h2 h3 => ?_, S.slots.mono (Ex.refl F) (List.prefix_append _ _), S.bF, S.bH, S.bN, fun c h => ?_, S.bK, fun c h => ?_, S.pA.trans (List.prefix_append _ _)⟩
  · rw [List.nodup_append]
    refine ⟨S.nd, by simp, fun x hx y hy e => ?_⟩
    simp at hy
    subst e; subst hy; exact hA hx
  · rcases getElem?_concat h1 with q1 | ⟨q1, q2⟩
    · rcases getElem?_concat h2 with q3 | ⟨q3, q4⟩
      · obtain ⟨h4, o, h5, h6⟩ := S.cell k c m q1 q3 h3
        exact ⟨h4, o, h5, h6.mono2 (Ex.refl F) (List.prefix_append _ _)⟩
      · have := (List.getElem?_eq_some_iff.mp q1).1
        rw [S.len] at this; omega
    · rcases getElem?_concat h2 with q3 | ⟨q3, q4⟩
      · have := (List.getElem?_eq_some_iff.mp q3).1
        rw [← S.len] at this; omega
      · subst q2; subst q4
        exact ⟨hF, o, hH, hm⟩
  · rcases List.mem_append.mp h with h | h
    · exact S.bA c h
    · simp at h; subst h; exact .inr hB
  · rcases List.mem_append.mp h with h | h
    · exact S.kn c h
    · simp at h; subst h; exact ⟨o, hH⟩
/-- .. frozen at once -/
theorem Sta.moreF {a : Addr} {o : HO} (S : Sta K B F As M σ E H) (hF : F a = none) (hH : H a = some o) (hA : a ∉ As) (hB : B.H0 a = none) : Sta K B (upd F a o) As M σ E H ∧ Ex F (upd F a o) := by
  have ex : Ex F (upd F a o) := Ex.new hF
  refine ⟨⟨fun b u h => ?_, S.len, S.nd, fun k c m h1 h2 h3 => ?_, S.slots.mono ex (List.prefix_refl _), S.bF.trans ex, S.bH, fun b u h h0 => ?_, S.bA, S.bK, S.kn, S.pA⟩, ex⟩
  · by_cases e : b = a
    · subst e; rw [upd_same] at h; cases h; exact hH
    · rw [upd_ne e] at h; exact S.ex b u h
  · obtain ⟨z1, o', z2, z3⟩ := S.cell k c m h1 h2 h3
    have e : c ≠ a := fun z => hA (z ▸ List.mem_of_getElem? h1)
    exact ⟨by rw [upd_ne e]; exact z1, o', z2, z3.mono ex⟩
  · have e : b ≠ a := fun z => by rw [z, hB] at h; cases h
    rw [upd_ne e]; exact S.bN b u h h0
theorem MCR.toR {a : Addr} {o : HO} (h : MCR K F As mc o) (hF : F a = some o) (hd : mc.toD = some d) : R K F d (.ref a) := by
  cases mc with
  | lst ds => cases hd; obtain ⟨xs, rfl, p⟩ := h; exact R.lst' hF p
  | dct kvs => cases hd; obtain ⟨xs, rfl, p⟩ := h; exact R.dct' hF p
  | ins C fs => cases hd; obtain ⟨dx, xs, rfl, p⟩ := h; exact R.ins' hF p
  | gone => cases hd
  | deep x => cases hd
/-! ### what a def's call does, whatever the call's form -/
def CD (K : PySem.W.Frag) (Φ : List MC → List Rv → List MC → Out → Prop) (M1 : List MC) (xs : List Rv) (M2 : List MC) (r : Rv) : Prop :=
  ∀ (B : Base) (F : Hp) (As : List Addr) (σ : L2.St) (E : List (Option Rv)) (H : Hp) (vs : List V), Sta K B F As M1 σ E H → P2 (RV K F As) xs vs → ∀ (Q : VK) (XX : XK), (∀ v F' As' H', Sta K B F' As' M2 σ E H' → Ex F F' → As <+: As' → RV K F' As' r v → Q v H') → FSp K Φ vs H Q XX
def CX (K : PySem.W.Frag) (Φ : List MC → List Rv → List MC → Out → Prop) (M1 : List MC) (xs : List Rv) (M2 : List MC) (C : Addr) (fs : List (Str × D)) : Prop :=
  ∀ (B : Base) (F : Hp) (As : List Addr) (σ : L2.St) (E : List (Option Rv)) (H : Hp) (vs : List V), Sta K B F As M1 σ E H → P2 (RV K F As) xs vs → ∀ (Q : VK) (XX : XK), (∀ dd ws F' As' H', Sta K B F' As' M2 σ E H' → H' dd = none → PK (R K F') fs ws → XX (.ref C) (some dd) (upd H' dd (.xd ws))) → FSp K Φ vs H Q XX
theorem live_of (_ : Hand M1 ks Mc xc) : Live Mc := trivial
theorem cl_ret (W : Hand M1 ks Mc xc) (hΦ : Φ Mc xc Mc' (.ret d)) (hf : ∀ m ∈ Mc', ¬ m.isDeep) : CD K Φ M1 (xc.map (Rv.via ks)) (setAll M1 ks Mc') (.dat d) := fun B F As σ E H vs S r1 Q XX q =>
  ⟨F, _, Mc, xc, Mc', .ret d, call_in S W r1, live_of W, hΦ, fun v F' As' M'' H' fin rv => by
    obtain ⟨S2, e2⟩ := call_out S W fin hf
    exact q v F' As H' S2 e2 (List.prefix_refl _) rv⟩
theorem cl_exc {C : Addr} {fs : List (Str × D)} (W : Hand M1 ks Mc xc) (hΦ : Φ Mc xc Mc' (.exc C fs)) (hf : ∀ m ∈ Mc', ¬ m.isDeep) : CX K Φ M1 (xc.map (Rv.via ks)) (setAll M1 ks Mc') C fs := fun B F As σ E H vs S r1 Q XX q =>
  ⟨F, _, Mc, xc, Mc', .exc C fs, call_in S W r1, live_of W, hΦ, fun dd ws F' As' M'' H' fin n p => by
    obtain ⟨S2, e2⟩ := call_out S W fin hf
    exact q dd ws F' As H' S2 n p⟩
theorem new_facts (S : Sta K B F As M1 σ E H) (W : Hand M1 ks Mc xc) (fin : Fin K F H (ks.map fun k => As.getD k 0) Mc' F' H' As' M'') {k : Nat} {a : Addr} (hk : (ks.map fun k => As.getD k 0).length ≤ k) (hA : As'[k]? = some a) (hm : M''[k]? = some mc) (hg : mc ≠ .gone) :
    F' a = none ∧ ∃ o, H' a = some o ∧ MCR K F' As' mc o ∧ a ∉ As ∧ B.H0 a = none := by
  obtain ⟨τ, En, S2⟩ := fin.sta
  obtain ⟨tl, htl⟩ := fin.pre
  obtain ⟨z1, o, z2, z3⟩ := S2.cell k a mc hA hm hg
  have nH : H a = none := by
    rcases S2.bA a (List.mem_of_getElem? hA) with q | q
    · exfalso
      have q : a ∈ (ks.map fun k => As.getD k 0) := q
      obtain ⟨j, hj⟩ := List.getElem?_of_mem q
      have := S2.uniq (prefix_get ⟨tl, htl⟩ hj) hA
      have := (List.getElem?_eq_some_iff.mp hj).1
      omega
    · exact q
  exact ⟨z1, o, z2, z3, S.off nH, S.base_off nH⟩
theorem cl_new (W : Hand M1 ks Mc xc) (hΦ : Φ Mc xc Mc' (.new mc)) (hf : ∀ m ∈ Mc', ¬ m.isDeep) (hm : ¬ mc.isDeep) : CD K Φ M1 (xc.map (Rv.via ks)) (setAll M1 ks Mc' ++ [mc]) (.cel M1.length) := fun B F As σ E H vs S r1 Q XX q =>
  ⟨F, _, Mc, xc, Mc', .new mc, call_in S W r1, live_of W, hΦ, fun v k F' As' M'' H' fin hk h1 h2 rv => by
    obtain ⟨a, hA, rfl⟩ := rv
    obtain ⟨S2, e2⟩ := call_out S W fin hf
    obtain ⟨z1, o, z2, z3, z4, z5⟩ := new_facts S W fin hk hA h1 h2
    exact q _ F' (As ++ [a]) H' (S2.more z1 z2 (z3.flat hm) z4 z5) e2 (List.prefix_append _ _) ⟨a, by rw [← S.len]; rw [List.getElem?_append_right (Nat.le_refl _)]; simp, rfl⟩⟩
theorem cl_newF (W : Hand M1 ks Mc xc) (hΦ : Φ Mc xc Mc' (.new mc)) (hf : ∀ m ∈ Mc', ¬ m.isDeep) (hd : mc.toD = some d) : CD K Φ M1 (xc.map (Rv.via ks)) (setAll M1 ks Mc') (.dat d) := fun B F As σ E H vs S r1 Q XX q =>
  ⟨F, _, Mc, xc, Mc', .new mc, call_in S W r1, live_of W, hΦ, fun v k F' As' M'' H' fin hk h1 h2 rv => by
    obtain ⟨a, hA, rfl⟩ := rv
    obtain ⟨S2, e2⟩ := call_out S W fin hf
    obtain ⟨z1, o, z2, z3, z4, z5⟩ := new_facts S W fin hk hA h1 h2
    obtain ⟨S3, e3⟩ := S2.moreF z1 z2 z4 z5
    have nd : ¬ mc.isDeep := fun z => by cases mc with
      | deep y => cases hd
      | _ => exact z
    exact q _ _ As H' S3 (e2.trans e3) (List.prefix_refl _) (MCR.toR (As := As) ((z3.flat nd).mono e3) upd_same hd)⟩
theorem cl_grow {ms : List MC} (hx : dats xs ≠ none) (hΦ : Φ [] xs [] (.grow ms r)) : CD K Φ M1 xs (M1 ++ ms.map (MC.up M1.length)) (r.up M1.length) := fun B F As σ E H vs S r1 Q XX q =>
  ev_growF S hx r1 hΦ fun v F2 As2 H2 S2 e2 p2 rv => q v F2 As2 H2 S2 e2 p2 rv
theorem cl_lend {ds : List D} (n : Nat) (hv : xs.mapM (viewR M1 n) = some ds) (hΦ : Φ [] (ds.map Rv.dat) [] (.ret d)) (hs : d.sc) : CD K Φ M1 xs M1 (.dat d) := fun B F As σ E H vs S r1 Q XX q =>
  ⟨H, [], [], ds.map Rv.dat, [], .ret d, lend_in S hv r1, Live.nil, hΦ, fun v F' As' M'' H' fin rv => by
    obtain ⟨τ, En, S2⟩ := fin.sta
    exact q v F As H' (S.stay fun a o h => S2.bH a o h (fun z => by cases z)) (Ex.refl F) (List.prefix_refl _) (R.sc rv hs)⟩
/-- .. no cell goes in -/
theorem cl_ret0 (hx : dats xs ≠ none) (hΦ : Φ [] xs [] (.ret d)) : CD K Φ M1 xs M1 (.dat d) := by
  have h := cl_ret (K := K) (M1 := M1) (Hand.none hx) hΦ (fun m hm => by cases hm)
  rw [via_dats hx] at h
  exact h
theorem cl_new0 (hx : dats xs ≠ none) (hΦ : Φ [] xs [] (.new mc)) (hm : ¬ mc.isDeep := by intro z; cases z) : CD K Φ M1 xs (M1 ++ [mc]) (.cel M1.length) := by
  have h := cl_new (K := K) (M1 := M1) (Hand.none hx) hΦ (fun m hm => by cases hm) hm
  rw [via_dats hx] at h
  exact h
theorem cl_newF0 (hx : dats xs ≠ none) (hΦ : Φ [] xs [] (.new mc)) (hd : mc.toD = some d) : CD K Φ M1 xs M1 (.dat d) := by
  have h := cl_newF (K := K) (M1 := M1) (Hand.none hx) hΦ (fun m hm => by cases hm) hd
  rw [via_dats hx] at h
  exact h
theorem cl_exc0 {C : Addr} {fs : List (Str × D)} (hx : dats xs ≠ none) (hΦ : Φ [] xs [] (.exc C fs)) : CX K Φ M1 xs M1 C fs := by
  have h := cl_exc (K := K) (M1 := M1) (Hand.none hx) hΦ (fun m hm => by cases hm)
  rw [via_dats hx] at h
  exact h
/-! ### the forms of calls -/
theorem ev_cl (ha : EvA K t M E M1 xs) (h : CD K Φ M1 xs M2 r) : EvD K (tCall (FSp K Φ) [] XX t) M E M2 r := fun B F As σ H S Q q =>
  ha B F As σ H S _ fun vs F1 As1 H1 S1 e1 p1 r1 => by
    rw [List.append_nil]
    exact h B F1 As1 σ E H1 vs S1 r1 Q XX fun v F2 As2 H2 S2 e2 p2 rv => q v F2 As2 H2 S2 (e1.trans e2) (p1.trans p2) rv
theorem ev_clS (ha : EvA K t M E M1 xs) (h : CD K Φ M1 xs M2 r) : EvD K (tCallS (FSp K Φ) Xs t) M E M2 r := fun B F As σ H S Q q =>
  ha B F As σ H S _ fun vs F1 As1 H1 S1 e1 p1 r1 => h B F1 As1 σ E H1 vs S1 r1 Q (Xs σ) fun v F2 As2 H2 S2 e2 p2 rv => q v F2 As2 H2 S2 (e1.trans e2) (p1.trans p2) rv
theorem xx_cl {C : Addr} {fs : List (Str × D)} (ha : EvA K t M E M1 xs) (h : CX K Φ M1 xs M2 C fs) : ExX K (fun _ => XX) (tCall (FSp K Φ) [] XX t) M E M2 C fs := fun B F As σ H S k Q =>
  ha B F As σ H S _ fun vs F1 As1 H1 S1 e1 p1 r1 => by
    rw [List.append_nil]
    exact h B F1 As1 σ E H1 vs S1 r1 Q XX fun dd ws F' As' H' S' n p => k dd ws F' As' H' S' n p
theorem xx_clS {C : Addr} {fs : List (Str × D)} (ha : EvA K t M E M1 xs) (h : CX K Φ M1 xs M2 C fs) : ExX K Xs (tCallS (FSp K Φ) Xs t) M E M2 C fs := fun B F As σ H S k Q =>
  ha B F As σ H S _ fun vs F1 As1 H1 S1 e1 p1 r1 => h B F1 As1 σ E H1 vs S1 r1 Q (Xs σ) fun dd ws F' As' H' S' n p => k dd ws F' As' H' S' n p
theorem no_attr {C : Addr} {fs : List (Str × D)} {m : Str} {ws : List (Str × V)} (pa : PK (R K F) fs ws) (hm : fs.lookup m = none) : ws.lookup m = none := by
  rcases pa.look (f := m) with ⟨_, g⟩ | ⟨d2, v2, g, _⟩
  · exact g
  · rw [hm] at g; cases g
/-- a method of a frozen instance -/
theorem ev_mt {C : Addr} {fs : List (Str × D)} {m : Str} (ho : EvD K ta M E M1 (.dat (.ins C fs))) (hm : fs.lookup m = none) (ha : EvA K t M1 E M2 xs) (h : CD K Φ M2 (.dat (.ins C fs) :: xs) M3 r) : EvD K (tMeth C m (FSp K Φ) [] XX ta t) M E M3 r := fun B F As σ H S Q q =>
  ho B F As σ H S _ fun v F1 As1 H1 S1 e1 p1 r1 => by
    obtain ⟨a, dx, ws, ev, hA, pa⟩ := R.ins_inv r1
    refine ⟨a, dx, ws, ev, S1.ex _ _ hA, no_attr (C := C) pa hm, ha B F1 As1 σ H1 S1 _ fun vs F2 As2 H2 S2 e2 p2 r2 => ?_⟩
    rw [List.append_nil]
    exact h B F2 As2 σ E H2 _ S2 (P2.cons (R.mono r1 e2) r2) Q XX fun v F3 As3 H3 S3 e3 p3 rv => q v F3 As3 H3 S3 ((e1.trans e2).trans e3) ((p1.trans p2).trans p3) rv
theorem xx_mt {C C2 : Addr} {fs gs : List (Str × D)} {m : Str} (ho : EvD K ta M E M1 (.dat (.ins C fs))) (hm : fs.lookup m = none) (ha : EvA K t M1 E M2 xs) (h : CX K Φ M2 (.dat (.ins C fs) :: xs) M3 C2 gs) : ExX K (fun _ => XX) (tMeth C m (FSp K Φ) [] XX ta t) M E M3 C2 gs := fun B F As σ H S k Q =>
  ho B F As σ H S _ fun v F1 As1 H1 S1 e1 p1 r1 => by
    obtain ⟨a, dx, ws, ev, hA, pa⟩ := R.ins_inv r1
    refine ⟨a, dx, ws, ev, S1.ex _ _ hA, no_attr (C := C) pa hm, ha B F1 As1 σ H1 S1 _ fun vs F2 As2 H2 S2 e2 p2 r2 => ?_⟩
    rw [List.append_nil]
    exact h B F2 As2 σ E H2 _ S2 (P2.cons (R.mono r1 e2) r2) Q XX fun dd ws F' As' H' S' n p => k dd ws F' As' H' S' n p
theorem ev_mtT {C : Addr} {fs : List (Str × D)} {m : Str} (ho : EvD K ta M E M1 (.dat (.ins C fs))) (hm : fs.lookup m = none) (ha : EvA K t M1 E M2 xs) (h : CD K Φ M2 (.dat (.ins C fs) :: xs) M3 r) : EvD K (tMethT C m (FSp K Φ) Xs ta t) M E M3 r := fun B F As σ H S Q q =>
  ho B F As σ H S _ fun v F1 As1 H1 S1 e1 p1 r1 => by
    obtain ⟨a, dx, ws, ev, hA, pa⟩ := R.ins_inv r1
    exact ⟨a, dx, ws, ev, S1.ex _ _ hA, no_attr (C := C) pa hm, ha B F1 As1 σ H1 S1 _ fun vs F2 As2 H2 S2 e2 p2 r2 => h B F2 As2 σ E H2 _ S2 (P2.cons (R.mono r1 e2) r2) Q (Xs σ) fun v F3 As3 H3 S3 e3 p3 rv => q v F3 As3 H3 S3 ((e1.trans e2).trans e3) ((p1.trans p2).trans p3) rv⟩
theorem xx_mtT {C C2 : Addr} {fs gs : List (Str × D)} {m : Str} (ho : EvD K ta M E M1 (.dat (.ins C fs))) (hm : fs.lookup m = none) (ha : EvA K t M1 E M2 xs) (h : CX K Φ M2 (.dat (.ins C fs) :: xs) M3 C2 gs) : ExX K Xs (tMethT C m (FSp K Φ) Xs ta t) M E M3 C2 gs := fun B F As σ H S k Q =>
  ho B F As σ H S _ fun v F1 As1 H1 S1 e1 p1 r1 => by
    obtain ⟨a, dx, ws, ev, hA, pa⟩ := R.ins_inv r1
    exact ⟨a, dx, ws, ev, S1.ex _ _ hA, no_attr (C := C) pa hm, ha B F1 As1 σ H1 S1 _ fun vs F2 As2 H2 S2 e2 p2 r2 => h B F2 As2 σ E H2 _ S2 (P2.cons (R.mono r1 e2) r2) Q (Xs σ) fun dd ws F' As' H' S' n p => k dd ws F' As' H' S' n p⟩
/-- a new instance: its __init__ gets the last cell -/
theorem ev_mk {C : Addr} (ha : EvA K t M E M1 xs) (h : CD K Φ (M1 ++ [.ins C []]) (.cel M1.length :: xs) M2 rnon) : EvD K (tMake C (FSp K Φ) [] XX t) M E M2 (.cel M1.length) := fun B F As σ H S Q q =>
  ha B F As σ H S _ fun vs F1 As1 H1 S1 e1 p1 r1 x dx nx ndx hne => by
    obtain ⟨S3, e3, hA, hM⟩ := make_in (C := C) (vs := vs) S1 nx ndx hne
    rw [List.append_nil]
    exact h B _ _ σ E _ _ S3 (P2.cons ⟨x, hA, rfl⟩ (r1.m e3 (List.prefix_append _ _))) _ XX fun v F4 As4 H4 S4 e4 p4 rv => ⟨R.non_inv rv, q _ F4 As4 H4 S4 ((e1.trans e3).trans e4) ((p1.trans (List.prefix_append _ _)).trans p4) ⟨x, prefix_get p4 hA, rfl⟩⟩
/-! ### all cells go in, and none is changed -/
theorem RV.back (p : As <+: As') (h : RV K F' As' r v) (h0 : ∃ w, RV K F As r w) : RV K F' As r v := by
  cases r with
  | dat d => exact h
  | cel k =>
    obtain ⟨a, h1, h2⟩ := h
    obtain ⟨w, b, h3, _⟩ := h0
    have := prefix_get p h3
    rw [h1] at this; cases this
    exact ⟨_, h3, h2⟩
theorem P2.back {us : List Rv} {vs ws : List V} (p : As <+: As') (h : P2 (RV K F' As') us vs) (h0 : P2 (RV K F As) us ws) : P2 (RV K F' As) us vs := ⟨h.1, fun i r v e1 e2 => by
  obtain ⟨w, hw, rw_⟩ := h0.get e1
  exact (h.2 i r v e1 e2).back p ⟨w, rw_⟩⟩
theorem MCR.back {o o0 : HO} (p : As <+: As') (h : MCR K F' As' mc o) (h0 : MCR K F As mc o0) : MCR K F' As mc o := by
  cases mc with
  | lst ds => exact h
  | dct kvs => exact h
  | ins C fs => exact h
  | gone => exact h
  | deep y =>
    cases y with
    | lst rs =>
      obtain ⟨zs, h1, h2⟩ := h
      obtain ⟨ws, h3, h4⟩ := h0
      exact ⟨zs, h1, h2.back p h4⟩
    | tup rs =>
      obtain ⟨zs, h1, h2⟩ := h
      obtain ⟨ws, h3, h4⟩ := h0
      exact ⟨zs, h1, h2.back p h4⟩
    | ins C fs =>
      obtain ⟨dx, zs, h1, h2⟩ := h
      obtain ⟨dy, ws, h3, h4⟩ := h0
      refine ⟨dx, zs, h1, h2.1, fun i a b e1 e2 => ⟨(h2.2 i a b e1 e2).1, ?_⟩⟩
      obtain ⟨w, hw, rw_⟩ := h4.get e1
      exact (h2.2 i a b e1 e2).2.back p ⟨_, rw_.2⟩
theorem read_in (S : Sta K B F As M1 σ E H) (r1 : P2 (RV K F As) xs vs) : Sta K (Sta.self F H As) F As M1 (vs.map some) (xs.map some) H :=
  ⟨S.ex, S.len, S.nd, S.cell, ⟨by simp [r1.1], fun i r h => by
    rw [List.getElem?_map] at h
    cases c : xs[i]? with
    | none => rw [c] at h; cases h
    | some y =>
      rw [c] at h
      have h : y = r := by simpa using h
      subst h
      obtain ⟨v, hv, rv⟩ := r1.get c
      exact ⟨v, by rw [List.getElem?_map, hv]; rfl, rv⟩⟩, Ex.refl F, fun a o h _ => h, fun a o _ h => h, fun a h => .inl h, fun a o h => ⟨o, h⟩, S.kn, List.prefix_refl _⟩
theorem read_out (S : Sta K B F As M1 σ E H) (fin : Fin K F H As M1 F' H' As' M'') : Sta K B F' As M1 σ E H' ∧ Ex F F' := by
  obtain ⟨τ, En, S2⟩ := fin.sta
  refine ⟨⟨S2.ex, S.len, S.nd, fun k a m h1 h2 h3 => ?_, S.slots.mono S2.bF (List.prefix_refl _), S.bF.trans S2.bF, fun b o h hP => ?_, fun b o h h0 => ?_, S.bA, fun b o h => ?_, fun b h => ?_, S.pA⟩, S2.bF⟩
  · have hk := (List.getElem?_eq_some_iff.mp h1).1
    have eM : M''[k]? = some m := by
      have e : (M''.take As.length)[k]? = some m := by rw [fin.cut]; exact h2
      rw [List.getElem?_take, if_pos hk] at e
      exact e
    obtain ⟨z1, o, z2, z3⟩ := S2.cell k a m (prefix_get fin.pre h1) eM h3
    obtain ⟨_, o0, _, w3⟩ := S.cell k a m h1 h2 h3
    exact ⟨z1, o, z2, z3.back fin.pre w3⟩
  · refine S2.bH b o (S.bH b o h hP) fun z => ?_
    have z : b ∈ As := z
    rcases S.bA b z with q | q
    · exact hP q
    · rw [q] at h; cases h
  · obtain ⟨w, hw⟩ := S.bK b o h
    exact S2.bN b w hw (S.bN b o h h0)
  · obtain ⟨w, hw⟩ := S.bK b o h
    exact S2.bK b w hw
  · obtain ⟨w, hw⟩ := S.kn b h
    exact S2.bK b w hw
theorem read_new (S : Sta K B F As M1 σ E H) (fin : Fin K F H As M1 F' H' As' M'') {k : Nat} {a : Addr} (hk : As.length ≤ k) (hA : As'[k]? = some a) (hm : M''[k]? = some mc) (hg : mc ≠ .gone) :
    F' a = none ∧ ∃ o, H' a = some o ∧ MCR K F' As' mc o ∧ a ∉ As ∧ B.H0 a = none := by
  obtain ⟨τ, En, S2⟩ := fin.sta
  obtain ⟨z1, o, z2, z3⟩ := S2.cell k a mc hA hm hg
  have nA : a ∉ As := fun z => by
    obtain ⟨j, hj⟩ := List.getElem?_of_mem z
    have := S2.uniq (prefix_get fin.pre hj) hA
    have := (List.getElem?_eq_some_iff.mp hj).1
    omega
  have nH : H a = none := by
    rcases S2.bA a (List.mem_of_getElem? hA) with q | q
    · exact absurd q nA
    · exact q
  exact ⟨z1, o, z2, z3, nA, S.base_off nH⟩
/-- all cells go in, some are changed, no cell into one of them -/
theorem all_out (S : Sta K B F As M1 σ E H) (fin : Fin K F H As M2 F' H' As' M'') (hM : ∀ (i : Nat) (m : MC), M2[i]? = some m → M1[i]? = some m ∨ ¬ m.isDeep) : Sta K B F' As M2 σ E H' ∧ Ex F F' := by
  obtain ⟨τ, En, S2⟩ := fin.sta
  refine ⟨⟨S2.ex, fin.len.symm, S.nd, fun k a m h1 h2 h3 => ?_, S.slots.mono S2.bF (List.prefix_refl _), S.bF.trans S2.bF, fun b o h hP => ?_, fun b o h h0 => ?_, S.bA, fun b o h => ?_, fun b h => ?_, S.pA⟩, S2.bF⟩
  · have hk := (List.getElem?_eq_some_iff.mp h1).1
    have eM : M''[k]? = some m := by
      have e : (M''.take As.length)[k]? = some m := by rw [fin.cut]; exact h2
      rw [List.getElem?_take, if_pos hk] at e
      exact e
    obtain ⟨z1, o, z2, z3⟩ := S2.cell k a m (prefix_get fin.pre h1) eM h3
    rcases hM k m h2 with q | q
    · obtain ⟨_, o0, _, w3⟩ := S.cell k a m h1 q h3
      exact ⟨z1, o, z2, z3.back fin.pre w3⟩
    · exact ⟨z1, o, z2, z3.flat q⟩
  · refine S2.bH b o (S.bH b o h hP) fun z => ?_
    have z : b ∈ As := z
    rcases S.bA b z with q | q
    · exact hP q
    · rw [q] at h; cases h
  · obtain ⟨w, hw⟩ := S.bK b o h
    exact S2.bN b w hw (S.bN b o h h0)
  · obtain ⟨w, hw⟩ := S.bK b o h
    exact S2.bK b w hw
  · obtain ⟨w, hw⟩ := S.kn b h
    exact S2.bK b w hw
theorem set_keeps {k : Nat} {m : MC} (hm : ¬ m.isDeep) : ∀ (i : Nat) (m' : MC), (M1.set k m)[i]? = some m' → M1[i]? = some m' ∨ ¬ m'.isDeep := fun i m' h => by
  by_cases e : k = i
  · subst e
    by_cases hk : k < M1.length
    · rw [List.getElem?_set_self hk] at h; cases h; exact .inr hm
    · rw [List.getElem?_eq_none (by rw [List.length_set]; omega)] at h; cases h
  · rw [List.getElem?_set_ne e] at h; exact .inl h
theorem cl_all (hΦ : Φ M1 xs M2 (.ret d)) (hM : ∀ (i : Nat) (m : MC), M2[i]? = some m → M1[i]? = some m ∨ ¬ m.isDeep) : CD K Φ M1 xs M2 (.dat d) := fun B F As σ E H vs S r1 Q XX q =>
  ⟨F, As, M1, xs, M2, .ret d, read_in S r1, trivial, hΦ, fun v F' As' M'' H' fin rv => q v F' As H' (all_out S fin hM).1 (all_out S fin hM).2 (List.prefix_refl _) rv⟩
theorem cl_allX {C : Addr} {fs : List (Str × D)} (hΦ : Φ M1 xs M2 (.exc C fs)) (hM : ∀ (i : Nat) (m : MC), M2[i]? = some m → M1[i]? = some m ∨ ¬ m.isDeep) : CX K Φ M1 xs M2 C fs := fun B F As σ E H vs S r1 Q XX q =>
  ⟨F, As, M1, xs, M2, .exc C fs, read_in S r1, trivial, hΦ, fun dd ws F' As' M'' H' fin n p => q dd ws F' As H' (all_out S fin hM).1 n p⟩
/-! ### lists of numbers behind changes elsewhere -/
theorem get_n {α : Type} (us ws : List α) (k : Nat) : (us ++ ws)[us.length + k]? = ws[k]? := by
  rw [List.getElem?_append_right (Nat.le_add_right _ _), Nat.add_sub_cancel_left]
theorem set_n {α : Type} (us ws : List α) (k : Nat) (y : α) : (us ++ ws).set (us.length + k) y = us ++ ws.set k y := by
  rw [List.set_append_right _ _ (Nat.le_add_right _ _), Nat.add_sub_cancel_left]
theorem get_mid {α : Type} (us : List α) (x : α) (ws : List α) : (us ++ x :: ws)[us.length]? = some x := (get_n us (x :: ws) 0).trans rfl
theorem set_mid {α : Type} (us : List α) (x : α) (ws : List α) (y : α) : (us ++ x :: ws).set us.length y = us ++ y :: ws := set_n us (x :: ws) 0 y
theorem get_mid1 {α : Type} (us : List α) (x x1 : α) (ws : List α) : (us ++ x :: x1 :: ws)[us.length + 1]? = some x1 := (get_n us (x :: x1 :: ws) 1).trans rfl
theorem set_mid1 {α : Type} (us : List α) (x x1 : α) (ws : List α) (y : α) : (us ++ x :: x1 :: ws).set (us.length + 1) y = us ++ x :: y :: ws := set_n us (x :: x1 :: ws) 1 y
theorem IsLst.app {ds : List D} (h : IsLst M x ds) (N : List MC) : IsLst (M ++ N) x ds := by
  rcases h with h | ⟨k, h1, h2⟩
  · exact .inl h
  · exact .inr ⟨k, h1, by rw [List.getElem?_append_left (List.getElem?_eq_some_iff.mp h2).1]; exact h2⟩
theorem IsLst.off {ds : List D} {k : Nat} {C : Addr} {fs : List (Str × D)} {m : MC} (h : IsLst M x ds) (hk : M[k]? = some (.ins C fs)) : IsLst (M.set k m) x ds := by
  rcases h with h | ⟨j, h1, h2⟩
  · exact .inl h
  · refine .inr ⟨j, h1, ?_⟩
    have e : k ≠ j := by
      rintro rfl
      rw [hk] at h2; cases h2
    rw [List.getElem?_set_ne e]; exact h2
theorem cl_read (hΦ : Φ M1 xs M1 (.ret d)) : CD K Φ M1 xs M1 (.dat d) := fun B F As σ E H vs S r1 Q XX q =>
  ⟨F, As, M1, xs, M1, .ret d, read_in S r1, trivial, hΦ, fun v F' As' M'' H' fin rv => q v F' As H' (read_out S fin).1 (read_out S fin).2 (List.prefix_refl _) rv⟩
theorem cl_readX {C : Addr} {fs : List (Str × D)} (hΦ : Φ M1 xs M1 (.exc C fs)) : CX K Φ M1 xs M1 C fs := fun B F As σ E H vs S r1 Q XX q =>
  ⟨F, As, M1, xs, M1, .exc C fs, read_in S r1, trivial, hΦ, fun dd ws F' As' M'' H' fin n p => q dd ws F' As H' (read_out S fin).1 n p⟩
theorem cl_readN (hΦ : Φ M1 xs M1 (.new mc)) (hm : ¬ mc.isDeep := by intro z; cases z) : CD K Φ M1 xs (M1 ++ [mc]) (.cel M1.length) := fun B F As σ E H vs S r1 Q XX q =>
  ⟨F, As, M1, xs, M1, .new mc, read_in S r1, trivial, hΦ, fun v k F' As' M'' H' fin hk h1 h2 rv => by
    obtain ⟨a, hA, rfl⟩ := rv
    obtain ⟨S2, e2⟩ := read_out S fin
    obtain ⟨z1, o, z2, z3, z4, z5⟩ := read_new S fin hk hA h1 h2
    exact q _ F' (As ++ [a]) H' (S2.more z1 z2 (z3.flat hm) z4 z5) e2 (List.prefix_append _ _) ⟨a, by rw [← S.len]; rw [List.getElem?_append_right (Nat.le_refl _)]; simp, rfl⟩⟩
theorem cl_readF (hΦ : Φ M1 xs M1 (.new mc)) (hd : mc.toD = some d) : CD K Φ M1 xs M1 (.dat d) := fun B F As σ E H vs S r1 Q XX q =>
  ⟨F, As, M1, xs, M1, .new mc, read_in S r1, trivial, hΦ, fun v k F' As' M'' H' fin hk h1 h2 rv => by
    obtain ⟨a, hA, rfl⟩ := rv
    obtain ⟨S2, e2⟩ := read_out S fin
    obtain ⟨z1, o, z2, z3, z4, z5⟩ := read_new S fin hk hA h1 h2
    obtain ⟨S3, e3⟩ := S2.moreF z1 z2 z4 z5
    have nd : ¬ mc.isDeep := fun z => by cases mc with
      | deep y => cases hd
      | _ => exact z
    exact q _ _ As H' S3 (e2.trans e3) (List.prefix_refl _) (MCR.toR (As := As) ((z3.flat nd).mono e3) upd_same hd)⟩
/-! ### a loop over a list of numbers, data or a cell that the loop leaves -/
def Base.upA (B : Base) (F : Hp) (As : List Addr) : Base := { B with F0 := F, A0 := As }
theorem Sta.toUpA (S : Sta K B F As M σ E H) : Sta K (B.upA F As) F As M σ E H := { S with bF := Ex.refl F, bN := fun a o h h0 => h0, bH := S.bH, bA := S.bA, bK := S.bK, pA := List.prefix_refl _ }
theorem Sta.ofUpA {σ' : L2.St} {E' : List (Option Rv)} (S : Sta K B F1 As1 M1 σ E H1) (S' : Sta K (B.upA F1 As1) F As M σ' E' H) : Sta K B F As M σ' E' H := { S' with bF := S.bF.trans S'.bF, bN := fun a o h h0 => S'.bN a o h (S.bN a o h h0), bH := S'.bH, bA := S'.bA, bK := S'.bK, pA := S.pA.trans S'.pA }
variable {De : Ends} {uu uv : TS}
theorem s_forI {tl : TE} {j : Nat} {ns : List Int} (S : Sta K B F As M σ E H) (ha : EvD K tl M E M1 x) (hx : IsLst M1 x (ns.map D.int)) (P : Nat → List MC → List (Option Rv) → Prop) (h0 : P 0 M1 E) (keep : ∀ i M E, P i M E → IsLst M x (ns.map D.int))
    (hb : ∀ (B' : Base), Cv K B' B → ∀ (i : Nat) (n : Int) M E, ns[i]? = some n → P i M E → Nxt K B' M (E.set j (some (rint n))) (uu { De with nx := NxP K B' (P (i + 1)), ct := NxP K B' (P (i + 1)), bk := De.nx }))
    (hd : ∀ M E, P ns.length M E → Nxt K B M E De.nx) : tFor (iList K tl) (gName j) uu De σ H :=
  ha B F As σ H S _ fun v F1 As1 H1 S1 _ _ r1 => by
    obtain ⟨a, ws, rfl, hA, pa⟩ := hx.view S1 r1
    have ew := P2.ints pa
    subst ew
    refine ⟨a, rfl, ⟨_, SqL.of hA⟩, for_list (K := K) (a := a) (xs := ns.map V.int) (fun i => NxP K (B.upA F1 As1) (P i)) ⟨F1, As1, M1, E, S1.toUpA, h0⟩ (fun i σ' H' _ ⟨F2, As2, M2, E2, S2, hP⟩ => ?_) (fun i y σ' H' hi ⟨F2, As2, M2, E2, S2, hP⟩ => ?_) (fun σ' H' ⟨F2, As2, M2, E2, S2, hP⟩ => hd M2 E2 (by rw [List.length_map] at hP; exact hP) _ _ _ _ (S1.ofUpA S2))⟩
    · obtain ⟨b, zs, e, hb2, pz⟩ := (keep i M2 E2 hP).view S2 (r1.mono S2.bF S2.pA)
      have e : a = b := by injection e
      subst e
      rw [P2.ints pz] at hb2
      exact SqL.of hb2
    · rw [List.getElem?_map] at hi
      cases c : ns[i]? with
      | none => rw [c] at hi; cases hi
      | some n =>
        rw [c] at hi; cases hi
        exact hb (B.upA F1 As1) (fun {F As M σ E H} S' => S1.ofUpA S') i n M2 E2 c hP _ _ _ _ (S2.set (r := rint n) (.int n))
theorem q_forI {tl : TE} {j : Nat} {ns : List Int} (S : Sta K B F As M σ E H) (ha : EvD K tl M E M1 x) (hx : IsLst M1 x (ns.map D.int)) (P : Nat → List MC → List (Option Rv) → Prop) (h0 : P 0 M1 E) (keep : ∀ i M E, P i M E → IsLst M x (ns.map D.int))
    (hb : ∀ (B' : Base), Cv K B' B → ∀ (i : Nat) (n : Int) M E, ns[i]? = some n → P i M E → Nxt K B' M (E.set j (some (rint n))) (uu { De with nx := NxP K B' (P (i + 1)), ct := NxP K B' (P (i + 1)), bk := uv De }))
    (hd : ∀ M E, P ns.length M E → Nxt K B M E (uv De)) : tSeq (tFor (iList K tl) (gName j) uu) uv De σ H := s_forI (De := { De with nx := uv De }) S ha hx P h0 keep hb hd
/-! ### equal lists of numbers -/
theorem eqv_ints (ns ms : List Int) : PyData.eqv (.list (ns.map PyData.int)) (.list (ms.map PyData.int)) = decide (ns = ms) := by
  have h := PySem.W.ked_eqvAll ns ms
  simp only [PyData.eqv, h]
theorem od_eqLB {ns ms : List Int} : OpD K (rEqD K) M (rints ns) (rints ms) M (rbl (decide (ns = ms))) := OpD.pure fun B F H As σ E v w S r1 r2 Q q =>
  ⟨_, _, (PyOf.ints ns).dp S.ex r1, (PyOf.ints ms).dp S.ex r2, PySem.W.ke_shaped_ints _, PySem.W.ke_shaped_ints _, by rw [eqv_ints]; exact q _ (.bl _)⟩
/-- values that are seen as the same data -/
theorem od_neV {d : D} {e : PyData} {n m : Nat} {x y : Rv} (hx : viewR M n x = some d) (hy : viewR M m y = some d) (h : PyOf d e) (hs : SeqAt.shaped e = true) : OpD K (rNeD K) M x y M (rbl false) := OpD.pure fun B F H As σ E v w S r1 r2 Q q =>
  ⟨e, e, h.dp (Ex.refl H) (view_R S hx r1), h.dp (Ex.refl H) (view_R S hy r2), hs, hs, by rw [shaped_eqv hs]; exact q _ (.bl _)⟩
theorem arr_snoc {n : Nat} {f : Nat → Int} : arr (n + 1) f = arr n f ++ [f n] := by
  unfold arr
  rw [List.range_succ, List.map_append]; rfl
/-! ### fields set, told by what stands then -/
section
variable {C : Addr} {f : Str} {fs gs : List (Str × D)} {k n : Nat}
theorem s_fldE (S : Sta K B F As M σ E H) (h : EvD K tb M E M1 (.dat d)) (ho : EvD K ta M1 E M2 (.cel k)) (hk : M2[k]? = some (.ins C fs)) (c : Cls K C) (na : NoAttr K C f) (hl : fs.length < 1000) (hp : putD f d fs = gs)
    (kk : Nxt K B (M2.set k (.ins C gs)) E De.nx) : sFld K ta tb f De σ H := s_fld S h ho hk c na hl (hp ▸ kk)
theorem q_fldE (S : Sta K B F As M σ E H) (h : EvD K tb M E M1 (.dat d)) (ho : EvD K ta M1 E M2 (.cel k)) (hk : M2[k]? = some (.ins C fs)) (c : Cls K C) (na : NoAttr K C f) (hl : fs.length < 1000) (hp : putD f d fs = gs)
    (kk : Nxt K B (M2.set k (.ins C gs)) E (uv De)) : tSeq (sFld K ta tb f) uv De σ H := s_fldE (De := { De with nx := uv De }) S h ho hk c na hl hp kk
/-- .. of a cell of the def's own, frozen then -/
theorem s_fldF (S : Sta K B F As M σ E H) (hB : ∀ a, B.P a → a ∈ B.A0) (h : EvD K tb M E M1 (.cel n)) (hn : M1[n]? = some mc) (hd : mc.toD = some d) (h0 : B.A0.length ≤ n) (ho : EvD K ta (M1.set n .gone) E M2 (.cel k)) (hk : M2[k]? = some (.ins C fs)) (c : Cls K C) (na : NoAttr K C f) (hl : fs.length < 1000) (hp : putD f d fs = gs)
    (kk : Nxt K B (M2.set k (.ins C gs)) E De.nx) : sFld K ta tb f De σ H :=
  h B F As σ H S _ fun v F1 As1 H1 S1 e1 p1 r1 => by
    obtain ⟨a, hA, rfl⟩ := r1
    have hg : mc ≠ .gone := by rintro rfl; cases hd
    obtain ⟨g1, o, g2, g3⟩ := S1.cell n a mc hA hn hg
    have hP : B.H0 a = none := by
      rcases S1.bA a (List.mem_of_getElem? hA) with q | q
      · exfalso
        obtain ⟨j, hj, e⟩ := List.mem_iff_getElem.mp (hB a q)
        have e2 : As1[j]? = some a := prefix_get S1.pA (by rw [List.getElem?_eq_getElem hj, e])
        have := S1.uniq hA e2
        omega
      · exact q
    obtain ⟨S2, e2⟩ := S1.frz hA hn hg g2 hP
    have nd : ¬ mc.isDeep := fun z => by cases mc with
      | deep y => cases hd
      | _ => exact z
    have rd : R K (upd F1 a o) d (.ref a) := MCR.toR (As := As1) (g3.mono e2) upd_same hd
    refine ho B _ As1 σ H1 S2 _ fun w F3 As3 H3 S3 e3 p3 r3 => ?_
    obtain ⟨b, hb, rfl⟩ := r3
    obtain ⟨_, o2, ho2, dx, ws, rfl, pa⟩ := S3.cell k b _ hb hk (by intro z; cases z)
    subst hp
    exact ⟨b, C, dx, ws, rfl, ho2, c, na, by rw [← pa.1]; exact hl, kk _ _ _ _ (S3.chg hb hk (by intro z; cases z) ⟨dx, _, rfl, PK.putF (R.mono rd e3) pa⟩)⟩
theorem q_fldF (S : Sta K B F As M σ E H) (hB : ∀ a, B.P a → a ∈ B.A0) (h : EvD K tb M E M1 (.cel n)) (hn : M1[n]? = some mc) (hd : mc.toD = some d) (h0 : B.A0.length ≤ n) (ho : EvD K ta (M1.set n .gone) E M2 (.cel k)) (hk : M2[k]? = some (.ins C fs)) (c : Cls K C) (na : NoAttr K C f) (hl : fs.length < 1000) (hp : putD f d fs = gs)
    (kk : Nxt K B (M2.set k (.ins C gs)) E (uv De)) : tSeq (sFld K ta tb f) uv De σ H := s_fldF (De := { De with nx := uv De }) S hB h hn hd h0 ho hk c na hl hp kk
theorem xx_mk {C2 : Addr} {hs : List (Str × D)} (ha : EvA K t M E M1 xs) (h : CX K Φ (M1 ++ [.ins C []]) (.cel M1.length :: xs) M2 C2 hs) : ExX K (fun _ => XX) (tMake C (FSp K Φ) [] XX t) M E M2 C2 hs := fun B F As σ H S k Q =>
  ha B F As σ H S _ fun vs F1 As1 H1 S1 e1 p1 r1 x dx nx ndx hne => by
    obtain ⟨S3, e3, hA, hM⟩ := make_in (C := C) (vs := vs) S1 nx ndx hne
    rw [List.append_nil]
    exact h B _ _ σ E _ _ S3 (P2.cons ⟨x, hA, rfl⟩ (r1.m e3 (List.prefix_append _ _))) _ XX fun dd ws F' As' H' S' n p => k dd ws F' As' H' S' n p
end
/-- if c: x = e -/
theorem s_ifSet {c : TT} {i : Nat} {b : Bool} {d0 d1 : D} (S : Sta K B F As M σ E H) (h : EvT K c M E M b) (hx : E[i]? = some (some (.dat d0))) (hv : b = true → EvD K te M E M (.dat d1)) (k : Nxt K B M (E.set i (some (.dat (if b = true then d1 else d0)))) De.nx) : tIfS c (tAsg te (gName i)) tNext De σ H :=
  s_if S h (fun hb F As σ H S => s_set S (hv hb) (by rw [if_pos hb] at k; exact k)) (fun hb F As σ H S => s_next S (by
    have e : E.set i (some (.dat d0)) = E := by
      refine List.ext_getElem? fun j => ?_
      by_cases q : i = j
      · subst q
        rw [List.getElem?_set_self (List.getElem?_eq_some_iff.mp hx).1, hx]
      · rw [List.getElem?_set_ne q]
    rw [if_neg (by rw [hb]; exact Bool.false_ne_true), e] at k
    exact k))
theorem q_ifSet {c : TT} {i : Nat} {b : Bool} {d0 d1 : D} (S : Sta K B F As M σ E H) (h : EvT K c M E M b) (hx : E[i]? = some (some (.dat d0))) (hv : b = true → EvD K te M E M (.dat d1)) (k : Nxt K B M (E.set i (some (.dat (if b = true then d1 else d0)))) (uv De)) : tSeq (tIfS c (tAsg te (gName i)) tNext) uv De σ H := s_ifSet (De := { De with nx := uv De }) S h hx hv k
end
end DL
set_option Elab.async false
set_option linter.all false
set_option maxRecDepth 100000
set_option maxHeartbeats 2000000
/-! DL: an argument of a call raises; comprehensions over numbers with cells that move; loops over cells in a cell. -/
namespace DL
open PySem L2
open Evl (Ex)
section
variable {K : PySem.W.Frag} {B : Base} {F F' F1 H H' H1 : Hp} {As As' As1 : List Addr} {M M0 M1 M2 M' : List MC} {σ : L2.St} {E : List (Option Rv)} {ta tb te : TE} {r x : Rv} {xs rs : List Rv} {Φ : List MC → List Rv → List MC → Out → Prop} {XX : XK} {Xs : L2.St → XK} {t : TA} {C : Addr} {fs : List (Str × D)}
theorem xx_arg (h : ExA K Xs t M E M1 C fs) : ExX K Xs (tCall (FSp K Φ) [] XX t) M E M1 C fs := fun B F As σ H S k Q => h B F As σ H S k _
/-- [e for x in xs], numbers, each turn changing the cells, the list to be changed later -/
theorem ev_lcLSM {tl : TE} {j : Nat} {ns : List Int} (Ms : Nat → List MC) (f : Nat → Int) (ha : EvD K tl M E M1 (rints ns)) (hn : ns.length ≤ 16777000) (h0 : Ms 0 = M1)
    (he : ∀ (i : Nat) (n : Int), ns[i]? = some n → EvD K te (Ms i) (E.set j (some (rint n))) (Ms (i + 1)) (rint (f i))) :
    EvD K (tLc (iList K tl) (gName j) tYes te [j]) M E (Ms ns.length ++ [.lst (((List.range ns.length).map f).map D.int)]) (.cel (Ms ns.length).length) := fun B F As σ H S Q q =>
  ha B F As σ H S _ fun w F1 As1 H1 S1 e1 p1 r1 => by
    obtain ⟨a, ws, rfl, hA, pa⟩ := R.lst_inv r1
    have lw : ws.length = ns.length := by rw [← pa.1, List.length_map]
    refine ⟨a, rfl, ⟨ws, SqL.of (S1.ex _ _ hA)⟩, fun p hp => lc_list (K := K) (a := a) (xs := ws) (LcW K F1 H1 As1 Ms (fun _ => true) (fun i => .int (f i)) σ E p) (lcw_start S1 hp h0) (fun i H' _ ⟨F', As', acc, S', _⟩ => SqL.of (S'.ex _ _ (S'.bF _ _ hA))) (fun i x H' hi h => ?_) fun H' h => ?_⟩
    · obtain ⟨d, hd, rd⟩ := pa.flip.get hi
      rw [List.getElem?_map] at hd
      cases c : ns[i]? with
      | none => rw [c] at hd; cases hd
      | some n =>
        rw [c] at hd; cases hd
        obtain ⟨Mt, h1, h2, h3⟩ := LcT.moved (Ms := Ms) (v := fun i => .int (f i)) (he i n c)
        have hil := (List.getElem?_eq_some_iff.mp c).1
        exact ⟨wipe_one σ j _, lcw_turn h (by omega) (fun F' eF As' _ hE => hE.setW (r := rint n) (R.mono rd eF)) h1 h2 h3⟩
    · rw [lw] at h
      refine lcw_doneM S1 hp h fun u F' As' H' S' e' p' r' => ?_
      rw [givD_all] at S'
      have e : ((List.range ns.length).map fun i => D.int (f i)) = ((List.range ns.length).map f).map D.int := by rw [List.map_map]; rfl
      rw [e] at S'
      exact q u F' As' H' S' (e1.trans e') (p1.trans p') r'
/-- a list of lists of numbers, as the library's data -/
abbrev rowsD (rows : List (List Int)) : D := .lst (rows.map fun ns => .lst (ns.map D.int))
abbrev rowsP (rows : List (List Int)) : PyData := .list (rows.map fun ns => .list (ns.map PyData.int))
theorem PyOf.rows (rows : List (List Int)) : PyOf (rowsD rows) (rowsP rows) := .lst (by rw [List.length_map, List.length_map]) fun i d e h1 h2 => by
  rw [List.getElem?_map] at h1 h2
  cases c : rows[i]? with
  | none => rw [c] at h1; cases h1
  | some ns => rw [c] at h1 h2; cases h1; cases h2; exact PyOf.ints ns
theorem rows_lay : ∀ rows : List (List Int), PyData.canLayAll0 (rows.map fun ns => PyData.list (ns.map PyData.int)) = true
  | [] => rfl
  | ns :: r => by simp [PyData.canLayAll0, PyData.canLay0, PySem.W.ke_canLayAll0 ns, rows_lay r]
theorem rows_depth : ∀ rows : List (List Int), PyData.depthAll (rows.map fun ns => PyData.list (ns.map PyData.int)) ≤ 1
  | [] => Nat.zero_le _
  | ns :: r => by
    have := rows_depth r
    simp [PyData.depthAll, PyData.depth, PySem.W.ke_depthAll ns]
    omega
theorem rows_shaped (rows : List (List Int)) : SeqAt.shaped (rowsP rows) = true := by
  have := rows_depth rows
  simp [SeqAt.shaped, PyData.canLay0, PyData.depth, rows_lay rows]
  omega
theorem et_or2 {t u : TT} {c : Bool} (h1 : EvT K t M E M1 false) (h2 : EvT K u M1 E M2 c) : EvT K (tOr t u) M E M2 c := fun B F As σ H S Q q => h1 B F As σ H S _ fun F1 As1 H1 S1 e1 p1 => h2 B F1 As1 σ H1 S1 Q fun F2 As2 H2 S2 e2 p2 => q F2 As2 H2 S2 (e1.trans e2) (p1.trans p2)
theorem ev_and2 {c : Bool} (h1 : EvD K ta M E M1 (rbl true)) (h2 : EvD K tb M1 E M2 (rbl c)) : EvD K (tAndV ta tb) M E M2 (rbl c) := fun B F As σ H S Q q => h1 B F As σ H S _ fun v F1 As1 H1 S1 e1 p1 r1 => ⟨true, R.bl_inv r1, h2 B F1 As1 σ H1 S1 Q fun v F2 As2 H2 S2 e2 p2 r2 => q v F2 As2 H2 S2 (e1.trans e2) (p1.trans p2) r2⟩
/-- a if c else b, both reckoned -/
theorem ev_ifP {α : Type} {tt : TT} {b : Bool} {W : α → List MC} {w1 w2 : α} {i1 i2 : Int} (h : EvT K tt M E M1 b) (h1 : EvD K ta M1 E (W w1) (rint i1)) (h2 : EvD K tb M1 E (W w2) (rint i2)) : EvD K (tIf tt ta tb) M E (W (if b = true then w1 else w2)) (rint (if b = true then i1 else i2)) := by
  cases b with
  | true => exact ev_if h (fun _ => h1) (fun z => by cases z)
  | false => exact ev_if h (fun z => by cases z) (fun _ => h2)
theorem ev_ifPD {α : Type} {tt : TT} {b : Bool} {W : α → List MC} {w1 w2 : α} {d1 d2 : D} (h : EvT K tt M E M1 b) (h1 : b = true → EvD K ta M1 E (W w1) (.dat d1)) (h2 : b = false → EvD K tb M1 E (W w2) (.dat d2)) : EvD K (tIf tt ta tb) M E (W (if b = true then w1 else w2)) (.dat (if b = true then d1 else d2)) := by
  cases b with
  | true => exact ev_if h (fun _ => h1 rfl) (fun z => by cases z)
  | false => exact ev_if h (fun z => by cases z) (fun _ => h2 rfl)
/-- a new instance, frozen at once -/
theorem ev_mkF {mc : MC} {d : D} (ha : EvA K t M E M1 xs) (h : CD K Φ (M1 ++ [.ins C []]) (.cel M1.length :: xs) (M1 ++ [mc]) rnon) (hd : mc.toD = some d) : EvD K (tMake C (FSp K Φ) [] XX t) M E M1 (.dat d) := fun B F As σ H S Q q =>
  ha B F As σ H S _ fun vs F1 As1 H1 S1 e1 p1 r1 x dx nx ndx hne => by
    obtain ⟨S3, e3, hA, hM⟩ := make_in (C := C) (vs := vs) S1 nx ndx hne
    rw [List.append_nil]
    refine h B _ _ σ E _ _ S3 (P2.cons ⟨x, hA, rfl⟩ (r1.m e3 (List.prefix_append _ _))) _ XX fun v F4 As4 H4 S4 e4 p4 rv => ⟨R.non_inv rv, ?_⟩
    have hl : (As1 ++ [x]).length = As4.length := by rw [S4.len, List.length_append, List.length_append, S1.len]; rfl
    have eA : As1 ++ [x] = As4 := p4.eq_of_length hl
    subst eA
    have hg : mc ≠ .gone := by rintro rfl; cases hd
    have nd : ¬ mc.isDeep := fun z => by cases mc with
      | deep y => cases hd
      | _ => exact z
    obtain ⟨z1, o, z2, z3⟩ := S4.cell As1.length x mc (by rw [List.getElem?_append_right (Nat.le_refl _), Nat.sub_self]; rfl) (by rw [S1.len, List.getElem?_append_right (Nat.le_refl _), Nat.sub_self]; rfl) hg
    have S5 : Sta K B F4 As1 M1 σ E H4 := ⟨S4.ex, S1.len, S1.nd, fun k a m h1 h2 h3 => by
      obtain ⟨w1, o1, w2, w3⟩ := S4.cell k a m (prefix_get (List.prefix_append _ _) h1) (by rw [List.getElem?_append_left (List.getElem?_eq_some_iff.mp h2).1]; exact h2) h3
      obtain ⟨_, o0, _, v3⟩ := S1.cell k a m h1 h2 h3
      exact ⟨w1, o1, w2, w3.back (List.prefix_append _ _) v3⟩, S1.slots.mono (e3.trans e4) (List.prefix_refl _), S4.bF, S4.bH, S4.bN, S1.bA, S4.bK, fun a h => S4.kn a (List.mem_append_left _ h), S1.pA⟩
    obtain ⟨S6, e6⟩ := S5.moreF z1 z2 (S1.off nx) (S1.base_off nx)
    exact q _ _ As1 H4 S6 (((e1.trans e3).trans e4).trans e6) p1 (MCR.toR (As := As1) ((z3.flat nd).mono e6) upd_same hd)
variable {De : Ends} {uu uv : TS}
/-- a, b = x, y -/
theorem s_par {i j : Nat} {r1 r2 : Rv} (S : Sta K B F As M σ E H) (h : EvA K t M E M1 [r1, r2]) (k : Nxt K B M1 ((E.set i (some r1)).set j (some r2)) De.nx) : tPar i j t De σ H :=
  h B F As σ H S _ fun vs F1 As1 H1 S1 _ _ pa => by
    obtain ⟨v1, v2, rfl, q1, q2⟩ := pa.two
    exact ⟨v1, v2, rfl, k _ _ _ _ ((S1.set q1).set q2)⟩
theorem q_par {i j : Nat} {r1 r2 : Rv} (S : Sta K B F As M σ E H) (h : EvA K t M E M1 [r1, r2]) (k : Nxt K B M1 ((E.set i (some r1)).set j (some r2)) (uv De)) : tSeq (tPar i j t) uv De σ H := s_par (De := { De with nx := uv De }) S h k
/-- for x in xs, xs a cell that holds cells -/
theorem s_forC {tl : TE} {j n : Nat} {js : List Nat} (S : Sta K B F As M σ E H) (ha : EvD K tl M E M1 (.cel n)) (hx : M1[n]? = some (.deep (.lst (js.map Rv.cel)))) (P : Nat → List MC → List (Option Rv) → Prop) (h0 : P 0 M1 E) (keep : ∀ i M E, P i M E → M[n]? = some (.deep (.lst (js.map Rv.cel))))
    (hb : ∀ (B' : Base), Cv K B' B → ∀ (i k : Nat) M E, js[i]? = some k → P i M E → Nxt K B' M (E.set j (some (.cel k))) (uu { De with nx := NxP K B' (P (i + 1)), ct := NxP K B' (P (i + 1)), bk := De.nx }))
    (hd : ∀ M E, P js.length M E → Nxt K B M E De.nx) : tFor (iList K tl) (gName j) uu De σ H :=
  ha B F As σ H S _ fun v F1 As1 H1 S1 _ _ r1 => by
    obtain ⟨a, hA, rfl⟩ := r1
    have rd : ∀ {F2 As2 M2 E2 σ2 H2}, Sta K (B.upA F1 As1) F2 As2 M2 σ2 E2 H2 → M2[n]? = some (.deep (.lst (js.map Rv.cel))) → ∃ ws, H2 a = some (.lst ws) ∧ P2 (RV K F2 As2) (js.map Rv.cel) ws := fun {F2 As2 M2 E2 σ2 H2} S2 hm => by
      obtain ⟨_, o, g2, g3⟩ := S2.cell n a _ (prefix_get S2.pA hA) hm (by intro z; cases z)
      obtain ⟨ws, rfl, g4⟩ := g3
      exact ⟨ws, g2, g4⟩
    obtain ⟨ws, hw, pw⟩ := rd S1.toUpA hx
    have same : ∀ {F2 As2} {zs : List V}, As1 <+: As2 → P2 (RV K F2 As2) (js.map Rv.cel) zs → zs = ws := fun {F2 As2 zs} hp pz => by
      refine List.ext_getElem? fun i => ?_
      cases c : js[i]? with
      | none =>
        have hl := List.getElem?_eq_none_iff.mp c
        rw [List.getElem?_eq_none (by rw [← pz.1, List.length_map]; exact hl), List.getElem?_eq_none (by rw [← pw.1, List.length_map]; exact hl)]
      | some k =>
        have e : (js.map Rv.cel)[i]? = some (.cel k) := by rw [List.getElem?_map, c]; rfl
        obtain ⟨v1, e1, b1, h1, rfl⟩ := pz.get e
        obtain ⟨v2, e2, b2, h2, rfl⟩ := pw.get e
        have := prefix_get hp h2
        rw [h1] at this; cases this
        rw [e1, e2]
    refine ⟨a, rfl, ⟨_, SqL.of hw⟩, for_list (K := K) (a := a) (xs := ws) (fun i => NxP K (B.upA F1 As1) (P i)) ⟨F1, As1, M1, E, S1.toUpA, h0⟩ (fun i σ' H' _ ⟨F2, As2, M2, E2, S2, hP⟩ => ?_) (fun i y σ' H' hi ⟨F2, As2, M2, E2, S2, hP⟩ => ?_) (fun σ' H' ⟨F2, As2, M2, E2, S2, hP⟩ => hd M2 E2 (by rw [← pw.1, List.length_map] at hP; exact hP) _ _ _ _ (S1.ofUpA S2))⟩
    · obtain ⟨zs, h1, h2⟩ := rd S2 (keep i M2 E2 hP)
      rw [same S2.pA h2] at h1
      exact SqL.of h1
    · obtain ⟨r, hr, rv⟩ := pw.flip.get hi
      rw [List.getElem?_map] at hr
      cases c : js[i]? with
      | none => rw [c] at hr; cases hr
      | some k =>
        rw [c] at hr; cases hr
        exact hb (B.upA F1 As1) (fun {F As M σ E H} S' => S1.ofUpA S') i k M2 E2 c hP _ _ _ _ (S2.set (r := .cel k) (rv.mono S2.bF S2.pA))
theorem q_forC {tl : TE} {j n : Nat} {js : List Nat} (S : Sta K B F As M σ E H) (ha : EvD K tl M E M1 (.cel n)) (hx : M1[n]? = some (.deep (.lst (js.map Rv.cel)))) (P : Nat → List MC → List (Option Rv) → Prop) (h0 : P 0 M1 E) (keep : ∀ i M E, P i M E → M[n]? = some (.deep (.lst (js.map Rv.cel))))
    (hb : ∀ (B' : Base), Cv K B' B → ∀ (i k : Nat) M E, js[i]? = some k → P i M E → Nxt K B' M (E.set j (some (.cel k))) (uu { De with nx := NxP K B' (P (i + 1)), ct := NxP K B' (P (i + 1)), bk := uv De }))
    (hd : ∀ M E, P js.length M E → Nxt K B M E (uv De)) : tSeq (tFor (iList K tl) (gName j) uu) uv De σ H := s_forC (De := { De with nx := uv De }) S ha hx P h0 keep hb hd
end
end DL
set_option Elab.async false
set_option linter.all false
set_option maxRecDepth 100000
set_option maxHeartbeats 2000000
/-! DL: an `if` whose branches come to one state; `and` with cells that move. -/
namespace DL
open PySem L2
open Evl (Ex)
section
variable {K : PySem.W.Frag} {B : Base} {F F' F1 H H' H1 : Hp} {As As' As1 : List Addr} {M M0 M1 M2 M3 M' : List MC} {σ : L2.St} {E E2 : List (Option Rv)} {ta tb te : TE} {r x : Rv} {xs rs : List Rv} {b : Bool} {De : Ends} {t1 t2 uv : TS} {c : TT}
theorem q_ifE (M2 : List MC) (E2 : List (Option Rv)) (S : Sta K B F As M σ E H) (h : EvT K c M E M1 b) (h1 : b = true → ∀ De' : Ends, Nxt K B M2 E2 De'.nx → Nxt K B M1 E (t1 De')) (h2 : b = false → ∀ De' : Ends, Nxt K B M2 E2 De'.nx → Nxt K B M1 E (t2 De')) (k : Nxt K B M2 E2 (uv De)) : tSeq (tIfS c t1 t2) uv De σ H :=
  q_if S h (fun hb => h1 hb _ k) (fun hb => h2 hb _ k)
theorem ev_andG {d : Bool} (h1 : EvD K ta M E M1 (rbl b)) (h2 : b = true → EvD K tb M1 E M3 (rbl d)) (h3 : b = false → M1 = M3) : EvD K (tAndV ta tb) M E M3 (rbl (b && d)) := fun B F As σ H S Q q => h1 B F As σ H S _ fun v F1 As1 H1 S1 e1 p1 r1 => ⟨b, R.bl_inv r1, by
  cases b with
  | true => exact h2 rfl B F1 As1 σ H1 S1 Q fun v F2 As2 H2 S2 e2 p2 r2 => q v F2 As2 H2 S2 (e1.trans e2) (p1.trans p2) r2
  | false => exact q _ F1 As1 H1 (h3 rfl ▸ S1) e1 p1 (.bl _)⟩
theorem get_last {α : Type} (xs : List α) (x : α) : (xs ++ [x])[xs.length]? = some x := get_mid xs x []
theorem set_last {α : Type} (xs : List α) (x y : α) : (xs ++ [x]).set xs.length y = xs ++ [y] := set_mid xs x [] y
/-- sorted(xs), to be changed later -/
theorem cd_sortedM {ns : List Int} (h : IsLst M x (ns.map D.int)) : CaD K (rSortedI K) M [x] (M ++ [.lst ((sortI ns).map D.int)]) (.cel M.length) := fun B F As σ E H vs S r1 Q q => by
  obtain ⟨v, rfl, hv⟩ := r1.one
  obtain ⟨a, ws, rfl, ha, pa⟩ := h.view S hv
  refine ⟨a, ns, rfl, SqL.of (by rw [← pa.ints]; exact ha), fun ns' p hp hs hn => ?_⟩
  rw [sortI_unique hp hs]
  have S2 := S.newM (o := .lst ((sortI ns).map V.int)) (mc := .lst ((sortI ns).map D.int)) hn ⟨_, rfl, P2.ofInts _⟩
  exact q _ _ _ _ S2 (Ex.refl F) (List.prefix_append _ _) ⟨p, by rw [List.getElem?_append_right (by rw [S.len]; exact Nat.le_refl _), S.len]; simp, rfl⟩
/-- rows of four numbers -/
def rowD (r : Int × Int × Int × Int) : D := .tup [.int r.1, .int r.2.1, .int r.2.2.1, .int r.2.2.2]
/-- for a, b, c, d in rows -/
theorem s_forT4 {uu : TS} {tl : TE} {i j k l : Nat} {rows : List (Int × Int × Int × Int)} (S : Sta K B F As M σ E H) (ha : EvD K tl M E M1 (.dat (.lst (rows.map rowD)))) (P : Nat → List MC → List (Option Rv) → Prop) (h0 : P 0 M1 E)
    (hb : ∀ (B' : Base), Cv K B' B → ∀ (n : Nat) (r : Int × Int × Int × Int) M E, rows[n]? = some r → P n M E → Nxt K B' M ((((E.set i (some (rint r.1))).set j (some (rint r.2.1))).set k (some (rint r.2.2.1))).set l (some (rint r.2.2.2))) (uu { De with nx := NxP K B' (P (n + 1)), ct := NxP K B' (P (n + 1)), bk := De.nx }))
    (hd : ∀ M E, P rows.length M E → Nxt K B M E De.nx) : tFor (iList K tl) (gTup K 4 (gCons (gName i) (gCons (gName j) (gCons (gName k) (gCons (gName l) gNil))))) uu De σ H :=
  s_forG (st := fun E d E' => ∃ r, d = rowD r ∧ E' = (((E.set i (some (rint r.1))).set j (some (rint r.2.1))).set k (some (rint r.2.2.1))).set l (some (rint r.2.2.2))) S ha (fun {B F As M σ E H d v Q} hm S rd kk => by
    obtain ⟨r, _, rfl⟩ := List.mem_map.mp hm
    obtain ⟨a, vs, rfl, hA, pa⟩ := R.tup_inv rd
    obtain ⟨v1, ws, rfl, r1, pa⟩ := pa.inv_cons
    obtain ⟨v2, ws, rfl, r2, pa⟩ := pa.inv_cons
    obtain ⟨v3, ws, rfl, r3, pa⟩ := pa.inv_cons
    obtain ⟨v4, ws, rfl, r4, pa⟩ := pa.inv_cons
    have := pa.inv_nil; subst this
    exact ⟨a, [v1, v2, v3, v4], rfl, SqT.of (S.ex _ _ hA), rfl, v1, _, rfl, v2, _, rfl, v3, _, rfl, v4, [], rfl, rfl, kk _ _ ⟨r, rfl, rfl⟩ ((((S.set (r := rint r.1) r1).set (r := rint r.2.1) r2).set (r := rint r.2.2.1) r3).set (r := rint r.2.2.2) r4)⟩)
    P h0 (fun B' cv n d M E E' h1 h2 h3 => by
      obtain ⟨r, h4, rfl⟩ := h3
      rw [List.getElem?_map] at h1
      cases c : rows[n]? with
      | none => rw [c] at h1; cases h1
      | some r2 =>
        rw [c] at h1
        have h1 : rowD r2 = d := by injection h1
        have e : r2 = r := by
          rw [h4] at h1
          injection h1 with h1
          injection h1 with a1 h1
          injection h1 with a2 h1
          injection h1 with a3 h1
          injection h1 with a4 h1
          injection a1 with a1
          injection a2 with a2
          injection a3 with a3
          injection a4 with a4
          obtain ⟨b1, b2, b3, b4⟩ := r
          obtain ⟨c1, c2, c3, c4⟩ := r2
          simp only at a1 a2 a3 a4
          rw [a1, a2, a3, a4]
        subst e
        exact hb B' cv n r2 M E c h2) (fun M E h => hd M E (by rw [List.length_map] at h; exact h))
theorem q_forT4 {uu : TS} {tl : TE} {i j k l : Nat} {rows : List (Int × Int × Int × Int)} (S : Sta K B F As M σ E H) (ha : EvD K tl M E M1 (.dat (.lst (rows.map rowD)))) (P : Nat → List MC → List (Option Rv) → Prop) (h0 : P 0 M1 E)
    (hb : ∀ (B' : Base), Cv K B' B → ∀ (n : Nat) (r : Int × Int × Int × Int) M E, rows[n]? = some r → P n M E → Nxt K B' M ((((E.set i (some (rint r.1))).set j (some (rint r.2.1))).set k (some (rint r.2.2.1))).set l (some (rint r.2.2.2))) (uu { De with nx := NxP K B' (P (n + 1)), ct := NxP K B' (P (n + 1)), bk := uv De }))
    (hd : ∀ M E, P rows.length M E → Nxt K B M E (uv De)) : tSeq (tFor (iList K tl) (gTup K 4 (gCons (gName i) (gCons (gName j) (gCons (gName k) (gCons (gName l) gNil))))) uu) uv De σ H := s_forT4 (De := { De with nx := uv De }) S ha P h0 hb hd
end
end DL
set_option Elab.async false
set_option linter.all false
set_option maxRecDepth 100000
set_option maxHeartbeats 4000000
/-! DL: pairs of numbers in a list, a word in a tuple of the module, a < b < c. -/
namespace DL
open PySem L2 PySem.Spec PyProof.Rows
open Evl (Ex)
theorem unit5 {k : Nat} {A : Around} (r : Room k A) : A.units + 65 < cLine := by have := r.un; omega
section
variable {X : Cx} {K : PySem.W.Frag}
theorem op_inDK (hu : X.A.units + 65 < cLine) (hK : X.K = K) : OpR X (compareOp .In) (rInD K) := hK ▸ op_inD hu
theorem op_notInDK (hu : X.A.units + 65 < cLine) (hK : X.K = K) : OpR X (compareOp .NotIn) (rNotInD K) := hK ▸ op_notInD hu
end
theorem eqv_pair (p q : Int × Int) : PyData.eqv (pairP q) (pairP p) = decide (p = q) := by
  obtain ⟨a, b⟩ := p
  obtain ⟨c, d⟩ := q
  show ((c == a) && ((d == b) && true)) = _
  by_cases h : (a, b) = (c, d)
  · cases h; simp
  · rw [decide_eq_false h]
    by_cases h1 : c = a
    · by_cases h2 : d = b
      · exact absurd (by rw [h1, h2]) h
      · rw [beq_eq_false_iff_ne.mpr h2]; simp
    · rw [beq_eq_false_iff_ne.mpr h1]; rfl
theorem any_pair (p : Int × Int) : ∀ cs : List (Int × Int), ((cs.map pairP).any fun z => PyData.eqv z (pairP p)) = decide (p ∈ cs)
  | [] => rfl
  | c :: cs => by
    rw [List.map_cons, List.any_cons, any_pair p cs, eqv_pair]
    by_cases h : p = c
    · rw [decide_eq_true h, decide_eq_true (show p ∈ c :: cs from h ▸ List.mem_cons_self)]; rfl
    · rw [decide_eq_false h, Bool.false_or]
      by_cases g : p ∈ cs
      · rw [decide_eq_true g, decide_eq_true (List.mem_cons_of_mem _ g)]
      · rw [decide_eq_false g, decide_eq_false fun z => by
          rcases List.mem_cons.mp z with z | z
          · exact h z
          · exact g z]
abbrev pairsD (cs : List (Int × Int)) : D := .lst (cs.map pairD)
theorem PyOf.pairs (cs : List (Int × Int)) : PyOf (pairsD cs) (.list (cs.map pairP)) := .lst (by rw [List.length_map, List.length_map]) fun i d e h1 h2 => by
  rw [List.getElem?_map] at h1 h2
  cases c : cs[i]? with
  | none => rw [c] at h1; cases h1
  | some p => rw [c] at h1 h2; cases h1; cases h2; exact PyOf.pair p
theorem pairs_lay : ∀ cs : List (Int × Int), PyData.canLayAll0 (cs.map pairP) = true
  | [] => rfl
  | c :: r => by simp [PyData.canLayAll0, PyData.canLay0, pairs_lay r]
theorem pairs_depth : ∀ cs : List (Int × Int), PyData.depthAll (cs.map pairP) ≤ 1
  | [] => Nat.zero_le _
  | c :: r => by
    have := pairs_depth r
    simp [PyData.depthAll, PyData.depth]
    omega
theorem pairs_shaped (cs : List (Int × Int)) : SeqAt.shaped (.list (cs.map pairP)) = true := by
  have := pairs_depth cs
  simp [SeqAt.shaped, PyData.canLay0, PyData.depth, pairs_lay cs]
  omega
section
variable {K : PySem.W.Frag} {M M1 M2 M3 : List MC} {E : List (Option Rv)} {ta tb tc : TE} {x y z : Rv}
theorem od_inP {p : Int × Int} {cs : List (Int × Int)} : OpD K (rInD K) M (.dat (pairD p)) (.dat (pairsD cs)) M (rbl (decide (p ∈ cs))) := OpD.pure fun B F H As σ E v w S r1 r2 Q q =>
  ⟨pairP p, cs.map pairP, (PyOf.pair p).dp S.ex r1, (PyOf.pairs cs).dp S.ex r2, rfl, pairs_shaped cs, by rw [any_pair]; exact q _ (.bl _)⟩
theorem od_notinP {p : Int × Int} {cs : List (Int × Int)} : OpD K (rNotInD K) M (.dat (pairD p)) (.dat (pairsD cs)) M (rbl (!decide (p ∈ cs))) := OpD.pure fun B F H As σ E v w S r1 r2 Q q =>
  ⟨pairP p, cs.map pairP, (PyOf.pair p).dp S.ex r1, (PyOf.pairs cs).dp S.ex r2, rfl, pairs_shaped cs, by rw [any_pair]; exact q _ (.bl _)⟩
/-- a r b r' c -/
theorem ev_chain3 {r r' : R2} {b c : Bool} (ha : EvD K ta M E M1 x) (hb : EvD K tb M1 E M2 y) (hr : OpD K r M2 x y M2 (rbl b)) (hc : b = true → EvD K tc M2 E M2 z) (hr' : b = true → OpD K r' M2 y z M2 (rbl c)) : EvD K (tChain r r' ta tb tc) M E M2 (rbl (b && c)) := fun B F As σ H S Q q =>
  ha B F As σ H S _ fun v F1 As1 H1 S1 e1 p1 r1 => hb B F1 As1 σ H1 S1 _ fun w F2 As2 H2 S2 e2 p2 r2 =>
    hr B F2 As2 σ E H2 v w S2 (r1.m e2 p2) r2 _ fun u F3 As3 H3 S3 e3 p3 r3 => ⟨b, R.bl_inv r3, by
      cases b with
      | false => exact q _ F3 As3 H3 S3 (e1.trans (e2.trans e3)) (p1.trans (p2.trans p3)) (.bl _)
      | true =>
        rw [if_pos rfl]
        exact hc rfl B F3 As3 σ H3 S3 _ fun u2 F4 As4 H4 S4 e4 p4 r4 => hr' rfl B F4 As4 σ E H4 w u2 S4 ((r2.m e3 p3).m e4 p4) r4 _ fun u5 F5 As5 H5 S5 e5 p5 r5 => q u5 F5 As5 H5 S5 (e1.trans (e2.trans (e3.trans (e4.trans e5)))) (p1.trans (p2.trans (p3.trans (p4.trans p5)))) r5⟩
/-- a tuple of words that the top has written -/
def KTupS (K : PySem.W.Frag) (a : Addr) (ss : List Str) : Prop := ∀ H : Hp, SqT K H a (ss.map V.str)
theorem inV_strs (s : Str) (ss : List Str) : inV (.str s) (ss.map V.str) = decide (s ∈ ss) := by
  unfold inV
  induction ss with
  | nil => rfl
  | cons m ns ih =>
    rw [List.map_cons, List.any_cons, ih]
    show ((m == s) || decide (s ∈ ns)) = decide (s ∈ m :: ns)
    by_cases e : m = s
    · rw [decide_eq_true (show s ∈ m :: ns from e ▸ List.mem_cons_self), beq_iff_eq.mpr e, Bool.true_or]
    · rw [beq_eq_false_iff_ne.mpr e, Bool.false_or]
      by_cases c : s ∈ ns
      · rw [decide_eq_true c, decide_eq_true (List.mem_cons_of_mem _ c)]
      · rw [decide_eq_false c, decide_eq_false (fun z => by
          rcases List.mem_cons.mp z with z | z
          · exact e z.symm
          · exact c z)]
theorem all_flatS (ss : List Str) : (ss.map V.str).all flatV = true := by
  rw [List.all_eq_true]; intro v hv
  obtain ⟨n, _, rfl⟩ := List.mem_map.mp hv
  rfl
theorem ev_notinK {a : Addr} {s : Str} {ss : List Str} (h : KTupS K a ss) (hb : EvD K tb M E M1 (rstr s)) : EvD K (tOp (rIn K true) tb (tC (.ref a))) M E M1 (rbl (!decide (s ∈ ss))) := fun B F As σ H S Q q =>
  hb B F As σ H S _ fun v F1 As1 H1 S1 e1 p1 r1 => ⟨a, ss.map V.str, rfl, .inr (h H1), by rw [R.str_inv r1]; rfl, all_flatS ss, q _ F1 As1 H1 S1 e1 p1 (by
    rw [if_pos rfl, R.str_inv r1, inV_strs]; exact .bl _)⟩
theorem od_neB {i j : Bool} : OpD K rNe M (rbl i) (rbl j) M (rbl (!decide (i = j))) := OpD.pure fun B F H As σ E v w S r1 r2 Q q => by
  cases R.bl_inv r1; cases R.bl_inv r2
  exact ⟨rfl, q _ (by
    show R K F (.bl (!decide (i = j))) (.bl (!decide (V.bl i = V.bl j)))
    rw [show decide (V.bl i = V.bl j) = decide (i = j) by rw [Bool.eq_iff_iff]; simp]; exact .bl _)⟩
/-- [.. for x in xs if t], no turn taken -/
theorem ev_lc0 {tl te : TE} {tt : TT} {j : Nat} {ds : List D} (ha : EvD K tl M E M1 (.dat (.lst ds))) (hn : ds.length ≤ 16777000) (h : ∀ d ∈ ds, EvT K tt M1 (E.set j (some (.dat d))) M1 false) : EvD K (tLc (iList K tl) (gName j) tt te [j]) M E M1 (.dat (.lst [])) := by
  have g := ev_lcL (tt := tt) (te := te) (j := j) (fun _ => M1) (fun _ => false) (fun _ => .non) ha hn rfl fun i d hd => LcT.tested (h d (List.mem_of_getElem? hd)) (fun z => by cases z)
  have e : givD ds.length (fun _ => false) (fun _ => D.non) = [] := by
    unfold givD
    rw [List.filter_eq_nil_iff.mpr (fun _ _ z => by cases z)]
    rfl
  rwa [e] at g
/-- two lists of numbers, compared -/
theorem PyOf.two (as bs : List Int) : PyOf (.tup [.lst (as.map D.int), .lst (bs.map D.int)]) (.tuple [.list (as.map PyData.int), .list (bs.map PyData.int)]) := .tup rfl fun i d e a b => by
  match i, a, b with
  | 0, a, b => cases a; cases b; exact PyOf.ints _
  | 1, a, b => cases a; cases b; exact PyOf.ints _
  | i + 2, a, b => simp at a
theorem two_shaped (as bs : List Int) : SeqAt.shaped (.tuple [.list (as.map PyData.int), .list (bs.map PyData.int)]) = true := by
  simp [SeqAt.shaped, PyData.canLayAll0, PyData.canLay0, PyData.depth, PyData.depthAll, PySem.W.ke_canLayAll0, PySem.W.ke_depthAll]
theorem od_eqT2 {as bs cs ds : List Int} : OpD K (rEqD K) M (.dat (.tup [.lst (as.map D.int), .lst (bs.map D.int)])) (.dat (.tup [.lst (cs.map D.int), .lst (ds.map D.int)])) M (rbl (decide ((as, bs) = (cs, ds)))) := OpD.pure fun B F H As σ E v w S r1 r2 Q q =>
  ⟨_, _, (PyOf.two as bs).dp S.ex r1, (PyOf.two cs ds).dp S.ex r2, two_shaped _ _, two_shaped _ _, by
    have e : PyData.eqv (.tuple [.list (as.map PyData.int), .list (bs.map PyData.int)]) (.tuple [.list (cs.map PyData.int), .list (ds.map PyData.int)]) = decide ((as, bs) = (cs, ds)) := by
      show (PyData.eqv (.list _) (.list _) && (PyData.eqv (.list _) (.list _) && true)) = _
      rw [eqv_ints, eqv_ints]
      by_cases c1 : as = cs <;> by_cases c2 : bs = ds <;> simp [c1, c2]
    rw [e]; exact q _ (.bl _)⟩
end
end DL
set_option Elab.async false
set_option linter.all false
set_option maxRecDepth 100000
set_option maxHeartbeats 4000000
/-! DL: list(range(a, -1, -1)). -/
namespace DL
open PySem L2 PySem.Spec PyProof.Rows
open Evl (Ex)
section
variable {K : PySem.W.Frag} {M M1 : List MC} {E : List (Option Rv)} {t : TA}
theorem ev_listDown {a : Int} (ha : EvA K t M E M1 [rint a, rint (-1), rint (-1)]) (h0 : 0 ≤ a ∧ a ≤ 1000000) : EvD K (tLstRg3 t) M E M1 (rints ((List.range (a + 1).toNat).map fun (k : Nat) => a - (k : Int))) := fun B F As σ H S Q q =>
  ha B F As σ H S _ fun vs F1 As1 H1 S1 e1 p1 r1 => by
    obtain ⟨v1, ws, rfl, h1, r1⟩ := r1.inv_cons
    obtain ⟨v2, v3, rfl, h2, h3⟩ := r1.two
    cases R.int_inv h1; cases R.int_inv h2; cases R.int_inv h3
    refine ⟨a, -1, -1, (a - -1).toNat, rfl, RgC.neg (by omega) (by omega) (by omega) (by omega), by omega, fun p hp => ?_⟩
    have e : stV a (-1) (a - -1).toNat = ((List.range (a + 1).toNat).map fun (k : Nat) => a - (k : Int)).map V.int := by
      unfold stV
      rw [List.map_map, show (a - -1).toNat = (a + 1).toNat by omega]
      refine List.map_congr_left fun k _ => ?_
      show V.int (a + (k : Int) * -1) = V.int (a - (k : Int))
      congr 1
      omega
    rw [e]
    exact ev_lstNew S1 hp (P2.ofInts _) fun u F' As' H' S' e' p' r' => q u F' As' H' S' (e1.trans e') (p1.trans p') r'
end
end DL
set_option Elab.async false
set_option linter.all false
set_option maxRecDepth 100000
set_option maxHeartbeats 4000000
/-! DL: xs.remove(n), xs a cell of numbers. -/
namespace DL
open PySem L2 PySem.Spec PyProof.Rows
open Evl (Ex)
/-- the row without its first n -/
def remI (n : Int) (ns : List Int) : List Int := ns.eraseIdx (idxI n ns)
theorem remI_perm {n : Int} {ns : List Int} (h : n ∈ ns) : (n :: remI n ns).Perm ns := by
  obtain ⟨h1, h2, _⟩ := idxI_at h
  have e : ∀ (ls : List Int) (j : Nat) (h : j < ls.length), (ls[j] :: ls.eraseIdx j).Perm ls := fun ls => by
    induction ls with
    | nil => intro j h; cases h
    | cons x ls ih =>
      intro j h
      cases j with
      | zero => exact List.Perm.refl _
      | succ j =>
        have hj : j < ls.length := by simpa using h
        show (ls[j]'hj :: x :: ls.eraseIdx j).Perm (x :: ls)
        exact (List.Perm.swap x (ls[j]'hj) _).trans ((ih j hj).cons x)
  have g := e ns _ h2
  rw [List.getElem?_eq_getElem h2] at h1
  rw [Option.some.inj h1] at g
  exact g
theorem eraseIdx_mapI : ∀ (ls : List Int) (j : Nat), (ls.map D.int).eraseIdx j = (ls.eraseIdx j).map D.int
  | [], _ => rfl
  | _ :: _, 0 => rfl
  | x :: ls, j + 1 => by
    show D.int x :: (ls.map D.int).eraseIdx j = D.int x :: (ls.eraseIdx j).map D.int
    rw [eraseIdx_mapI ls j]
section
variable {K : PySem.W.Frag} {B : Base} {F F' H H' : Hp} {As As' : List Addr} {M M1 M2 : List MC} {σ : L2.St} {E : List (Option Rv)} {ta te : TE} {De : Ends} {uv : TS}
theorem s_remI {k : Nat} {ns : List Int} {ds : List DL.D} {e : Int} (S : Sta K B F As M σ E H) (ho : EvD K ta M E M1 (.cel k)) (h : EvD K te M1 E M2 (rint e)) (hk1 : M1[k]? = some (.lst ds)) (hk : M2[k]? = some (.lst (ns.map DL.D.int))) (hm : e ∈ ns)
    (kk : Nxt K B (M2.set k (.lst ((remI e ns).map DL.D.int))) E De.nx) : tDrop (tBM K "list" rRemI ta (tCons te tNil)) De σ H :=
  ho B F As σ H S _ fun v F1 As1 H1 S1 e1 p1 r1 => by
    obtain ⟨a, hA, rfl⟩ := r1
    obtain ⟨_, o, ho1, vs1, rfl, pa1⟩ := S1.cell k a _ hA hk1 (by intro z; cases z)
    refine ⟨.inl ⟨rfl, _, SqL.of ho1⟩, h B F1 As1 σ H1 S1 _ fun v2 F2 As2 H2 S2 e2 p2 r2 => ?_⟩
    have hA := prefix_get p2 hA
    obtain ⟨_, o, ho, vs, rfl, pa⟩ := S2.cell k a _ hA hk (by intro z; cases z)
    cases R.int_inv r2
    have ev := P2.ints pa
    subst ev
    obtain ⟨i1, i2, i3⟩ := idxI_at hm
    exact ⟨a, ns, e, idxI e ns, rfl, rfl, ho, i1, fun m q => i3 m q, kk _ _ _ _ (S2.chg hA hk (by intro z; cases z) ⟨_, rfl, P2.ofInts _⟩)⟩
theorem q_remI {k : Nat} {ns : List Int} {ds : List DL.D} {e : Int} (S : Sta K B F As M σ E H) (ho : EvD K ta M E M1 (.cel k)) (h : EvD K te M1 E M2 (rint e)) (hk1 : M1[k]? = some (.lst ds)) (hk : M2[k]? = some (.lst (ns.map DL.D.int))) (hm : e ∈ ns)
    (kk : Nxt K B (M2.set k (.lst ((remI e ns).map DL.D.int))) E (uv De)) : tSeq (tDrop (tBM K "list" rRemI ta (tCons te tNil))) uv De σ H := s_remI (De := { De with nx := uv De }) S ho h hk1 hk hm kk
end
end DL
set_option Elab.async false
set_option linter.all false
set_option maxRecDepth 100000
set_option maxHeartbeats 4000000
/-! DL: sorted(xs, reverse=True). -/
namespace DL
open PySem L2 PySem.Spec PyProof.Rows
open Evl (Ex)
theorem cr_sortedRevK {X : Cx} {K : PySem.W.Frag} {b : Bool} (hK : X.K = K) : CallRK X (.builtin "sorted") [Str.ofString "reverse"] (rSortedKw K b [.bl b]) := hK ▸ cr_sortedRev
def sortD (ns : List Int) : List Int := (sortI ns).reverse
theorem sortD_perm (ns : List Int) : (sortD ns).Perm ns := (List.reverse_perm _).trans (sortI_perm ns)
theorem sortD_pair (ns : List Int) : (sortD ns).Pairwise (· ≥ ·) := List.pairwise_reverse.mpr (sortI_pair ns)
theorem sortD_unique {ms ns : List Int} (h : ms.Perm ns) (p : ms.Pairwise (· ≥ ·)) : ms = sortD ns := (h.trans (sortD_perm ns).symm).eq_of_pairwise (fun x y _ _ h1 h2 => Int.le_antisymm h2 h1) p (sortD_pair ns)
theorem sortD_length (ns : List Int) : (sortD ns).length = ns.length := (sortD_perm ns).length_eq
section
variable {K : PySem.W.Frag} {M M1 M2 : List MC} {E : List (Option Rv)} {ta tk : TA} {x : Rv}
theorem ev_sortRev {ns : List Int} (ha : EvA K ta M E M1 [x]) (hk : EvA K tk M1 E M2 [rbl true]) (hx : IsLst M2 x (ns.map D.int)) : EvD K (tCKw (rSortedKw K true [.bl true]) ta tk) M E M2 (rints (sortD ns)) := fun B F As σ H S Q q =>
  ha B F As σ H S _ fun vs F1 As1 H1 S1 e1 p1 r1 => hk B F1 As1 σ H1 S1 _ fun zs F2 As2 H2 S2 e2 p2 r2 => by
    obtain ⟨v, rfl, hv⟩ := r1.one
    obtain ⟨u, rfl, hu⟩ := r2.one
    cases R.bl_inv hu
    obtain ⟨a, ws, rfl, hA, pa⟩ := hx.view S2 (hv.m e2 p2)
    refine ⟨a, ns, rfl, rfl, SqL.of (by rw [← pa.ints]; exact hA), fun ns' p hp hs hn => ?_⟩
    rw [sortD_unique hp hs]
    exact ev_lstNew S2 hn (P2.ofInts _) fun w F' As' H' S' e' p' r' => q w F' As' H' S' (e1.trans (e2.trans e')) (p1.trans (p2.trans p')) r'
end
end DL
set_option Elab.async false
set_option linter.all false
set_option maxRecDepth 100000
set_option maxHeartbeats 4000000
/-! DL: new lists to be changed later: list(range(a, b)), [e for x in xs]. -/
namespace DL
open PySem L2 PySem.Spec PyProof.Rows
open Evl (Ex)
section
variable {K : PySem.W.Frag} {M M1 M2 : List MC} {E : List (Option Rv)} {ta tb te : TE}
theorem ev_lstNewM {B : Base} {F H : Hp} {As : List Addr} {σ : L2.St} {ds : List D} {vs : List V} {p : Addr} (S : Sta K B F As M σ E H) (hp : H p = none) (h : P2 (R K F) ds vs) {Q : VK} (q : ∀ u F' As' H', Sta K B F' As' (M ++ [.lst ds]) σ E H' → Ex F F' → As <+: As' → RV K F' As' (.cel M.length) u → Q u H') : Q (.ref p) (upd H p (.lst vs)) := by
  have S2 := S.newM (o := .lst vs) (mc := .lst ds) hp ⟨vs, rfl, h⟩
  exact q _ _ _ _ S2 (Ex.refl F) (List.prefix_append _ _) ⟨p, by rw [List.getElem?_append_right (by rw [S.len]; exact Nat.le_refl _), S.len]; simp, rfl⟩
theorem ev_listRg2M {a b : Int} (ha : EvD K ta M E M1 (rint a)) (hb : EvD K tb M1 E M2 (rint b)) (h : RgOk a b) : EvD K (tLstRg (tRg2 ta tb)) M E (M2 ++ [.lst ((rgD a b).map D.int)]) (.cel M2.length) := fun B F As σ H S Q q =>
  ha B F As σ H S _ fun v F1 As1 H1 S1 e1 p1 r1 => hb B F1 As1 σ H1 S1 _ fun w F2 As2 H2 S2 e2 p2 r2 => by
    cases R.int_inv r1; cases R.int_inv r2
    refine ⟨a, b, rfl, rfl, h, fun p hp => ?_⟩
    have e : rgV a b = (rgD a b).map V.int := by
      unfold rgV rgD
      rw [List.map_map]; rfl
    rw [e]
    exact ev_lstNewM S2 hp (P2.ofInts _) fun u F' As' H' S' e' p' r' => q u F' As' H' S' ((e1.trans e2).trans e') ((p1.trans p2).trans p') r'
/-- [e for x in xs], xs data, the list to be changed later -/
theorem ev_lcLDM {tl : TE} {j : Nat} {ds : List D} (f : Nat → D) (ha : EvD K tl M E M1 (.dat (.lst ds))) (hn : ds.length ≤ 16777000)
    (he : ∀ (i : Nat) (d : D), ds[i]? = some d → EvD K te M1 (E.set j (some (.dat d))) M1 (.dat (f i))) :
    EvD K (tLc (iList K tl) (gName j) tYes te [j]) M E (M1 ++ [.lst ((List.range ds.length).map f)]) (.cel M1.length) := fun B F As σ H S Q q =>
  ha B F As σ H S _ fun w F1 As1 H1 S1 e1 p1 r1 => by
    obtain ⟨a, ws, rfl, hA, pa⟩ := R.lst_inv r1
    refine ⟨a, rfl, ⟨ws, SqL.of (S1.ex _ _ hA)⟩, fun p hp => lc_list (K := K) (a := a) (xs := ws) (LcW K F1 H1 As1 (fun _ => M1) (fun _ => true) f σ E p) (lcw_start S1 hp rfl) (fun i H' _ ⟨F', As', acc, S', _⟩ => SqL.of (S'.ex _ _ (S'.bF _ _ hA))) (fun i x H' hi h => ?_) fun H' h => ?_⟩
    · obtain ⟨d, hd, rd⟩ := pa.flip.get hi
      obtain ⟨Mt, h1, h2, h3⟩ := LcT.plain (te := te) (v := f) (he i d hd)
      have hil := (List.getElem?_eq_some_iff.mp hd).1
      exact ⟨wipe_one σ j _, lcw_turn h (by omega) (fun F' eF As' _ hE => hE.setW (r := .dat d) (R.mono rd eF)) h1 h2 h3⟩
    · rw [← pa.1] at h
      refine lcw_doneM S1 hp h fun u F' As' H' S' e' p' r' => ?_
      rw [givD_all] at S'
      exact q u F' As' H' S' (e1.trans e') (p1.trans p') r'
/-! ### cuts of lists -/
theorem cut_take {α : Type} {xs : List α} {k : Nat} (h : k ≤ xs.length) : cutD xs none (some (k : Int)) = xs.take k := by
  have e1 : HT.sIx xs.length 0 none = 0 := rfl
  have e2 : HT.sIx xs.length xs.length (some (k : Int)) = k := by
    simp only [HT.sIx]
    split <;> omega
  unfold cutD
  rw [e1, e2, List.drop_zero]; rfl
theorem cut_drop {α : Type} {xs : List α} {k : Nat} (h : k ≤ xs.length) : cutD xs (some (k : Int)) none = xs.drop k := by
  have e1 : HT.sIx xs.length 0 (some (k : Int)) = k := by
    simp only [HT.sIx]
    split <;> omega
  have e2 : HT.sIx xs.length xs.length none = xs.length := rfl
  unfold cutD
  rw [e1, e2, List.take_of_length_le (by rw [List.length_drop]; omega)]
end
end DL
set_option Elab.async false
set_option linter.all false
set_option maxRecDepth 100000
set_option maxHeartbeats 4000000
/-! DL: except suites of any statements; xs.pop(); xs + ys to be changed later; a list in a list of lists. -/
namespace DL
open PySem L2 PySem.Spec PyProof.Rows
open Evl (Ex)
/-- a suite, whatever object the error is -/
def tSuite (cw : Value) (od : Option Addr) (T : Obj → TS) : TS := fun De σ H => ∀ ob : Obj, L2N.Zn cw od ob → (∃ fv, ob.data = .fields fv) → T ob De σ H
theorem pss_suite {X : Cx} {sts : List Stmt} {cw : Value} {od : Option Addr} {ob : Obj} {T : Obj → TS} (hz : L2N.Zn cw od ob) (hfv : ∃ fv, ob.data = .fields fv) (h : PSs X sts (T ob)) : PSs X sts (tSuite cw od T) := ⟨fun pins s σ H De I w => h.run pins s σ H De I (w ob hz hfv)⟩
theorem pe_errFK {X : Cx} {K : PySem.W.Frag} {W : Addr → Obj → Hp → Prop} {e : Expr} {te : TE} {pos : Pos} {nm : Str} (hK : X.K = K) (hW : Stands X W) (he : PE X e te) (hb : attributeBase e nm X.env (eval e X.env) = eval e X.env := by rfl) : PE X (.Attribute e nm pos) (tErrF K W nm te) := hK ▸ pe_errF hW he hb
theorem call_isErrK {X : Cx} {K : PySem.W.Frag} {W : Addr → Obj → Hp → Prop} (hK : X.K = K) (hW : Stands X W) : CallR X (.builtin "isinstance") (rIsErr K W) := hK ▸ call_isErr hW
/-- a clause whose suite is of any statements -/
theorem Clauses.consT {X : Cx} {x nm : Str} {cv : Value} {ix : Nat} {T : Addr → Obj → Value → Option Addr → TS} {st0 : Stmt} {sts : List Stmt} {np ps : Pos} {hds : List ExceptHandler} {cls : List (Value × Nat × (Addr → Value → Option Addr → TS))}
    (hnm : Names X x cv) (hix : X.N[ix]? = some nm) (hlo : X.env.kindOf nm = some .local)
    (hts : ∀ (a : Addr) (ob : Obj) (cw : Value) (dd : Option Addr) (pn : List (Addr × Obj)), L2N.Zn cw dd ob → (∃ fv, ob.data = .fields fv) → X.base.get? a = none → a ∉ frs X.stack → PSs (X.suite a ((a, ob) :: pn)) (st0 :: sts) (T a ob cw dd))
    (rest : Clauses X hds cls) : Clauses X (.ExceptHandler (some (.Name x np)) (some nm) (st0 :: sts) ps :: hds) ((cv, ix, fun a cw dd => tSuite cw dd fun ob => T a ob cw dd) :: cls) :=
  .cons hnm hix hlo (fun a ob cw dd pn hz hfv h1 h2 => pss_suite (T := fun ob => T a ob cw dd) hz hfv (hts a ob cw dd pn hz hfv h1 h2)) rest
section
variable {K : PySem.W.Frag} {B : Base} {F F1 H H1 : Hp} {As : List Addr} {M M1 M2 : List MC} {σ : L2.St} {E : List (Option Rv)} {ta tb te : TE} {x y r : Rv} {De : Ends} {C : Addr} {fs : List (Str × D)}
theorem s_suite {T : Obj → TS} {i : Nat} {a dd : Addr} {ws : List (Str × V)} (S : Sta K B F As M σ E H) (hi : i < E.length) (hdd : H dd = none) (hp : PK (R K F) fs ws) (hE : ExcC K C)
    (k : ∀ ob, Nxt K B M (E.set i (some (.dat (.err a ob C fs)))) (T ob De)) : tSuite (.ref C) (some dd) T De (σ.set i (some (.ref a))) (upd H dd (.xd ws)) := fun ob hz hfv => by
  obtain ⟨S1, e1⟩ := S.newF (o := .xd ws) hdd
  have hil : i < σ.length := by rw [← S.slots.1]; exact hi
  have ner : R K (upd F dd (.xd ws)) (.err a ob C fs) (.ref a) := .err ⟨⟨hz.1, rfl⟩, hfv, hE, dd, hz.2.1, upd_same⟩ hp.keys fun j p q g1 g2 => R.mono (hp.2 j p q g1 g2).2 e1
  exact k ob _ _ _ _ (S1.set (r := .dat (.err a ob C fs)) ner)
/-- behind a suite the name is gone -/
theorem Sta.unset (S : Sta K B F As M σ E H) (i : Nat) : Sta K B F As M (σ.set i none) (E.set i none) H := { S with slots := ⟨by rw [List.length_set, List.length_set]; exact S.slots.1, fun j r g => by
  by_cases e : i = j
  · subst e
    by_cases hi : i < E.length
    · rw [List.getElem?_set_self hi] at g; cases g
    · rw [List.getElem?_eq_none (by rw [List.length_set]; omega)] at g; cases g
  · rw [List.getElem?_set_ne e] at g
    obtain ⟨w, hw, rw_⟩ := S.slots.2 j r g
    exact ⟨w, by rw [List.getElem?_set_ne e]; exact hw, rw_⟩⟩ }
theorem s_leave {i : Nat} {P : L2.St → Hp → Prop} (S : Sta K B F As M σ E H) (k : Nxt K B M (E.set i none) P) : P (σ.set i none) H := k _ _ _ _ (S.unset i)
theorem s_brk (S : Sta K B F As M σ E H) (k : Nxt K B M E De.bk) : tBreak De σ H := k _ _ _ _ S
theorem s_cnt (S : Sta K B F As M σ E H) (k : Nxt K B M E De.ct) : tCont De σ H := k _ _ _ _ S
/-- xs.pop(), xs a cell -/
theorem ev_pop {k : Nat} {ds : List D} {d : D} (ho : EvD K ta M E M1 (.cel k)) (hk : M1[k]? = some (.lst ds)) (hd : ds[ds.length - 1]? = some d) :
    EvD K (tBM K "list" rPop ta tNil) M E (M1.set k (.lst ds.dropLast)) (.dat d) := fun B F As σ H S Q q =>
  ho B F As σ H S _ fun v F1 As1 H1 S1 e1 p1 r1 => by
    obtain ⟨a, hA, rfl⟩ := r1
    obtain ⟨_, o, ho1, vs, rfl, pa⟩ := S1.cell k a _ hA hk (by intro z; cases z)
    obtain ⟨v, hv, rv⟩ := pa.get hd
    have hx : ds.length = vs.length := pa.1
    rw [hx] at hv
    have pd : P2 (R K F1) ds.dropLast vs.dropLast := by
      rw [List.dropLast_eq_take, List.dropLast_eq_take, hx]
      exact pa.take _
    exact ⟨.inl ⟨rfl, _, SqL.of ho1⟩, a, vs, v, rfl, rfl, ho1, hv, q v _ _ _ (S1.chg hA hk (by intro z; cases z) ⟨_, rfl, pd⟩) e1 p1 rv⟩
theorem od_catM {ds es : List D} (h1 : IsLst M x ds) (h2 : IsLst M y es) (hl : ds.length + es.length ≤ 16777216) : OpD K rCat M x y (M ++ [.lst (ds ++ es)]) (.cel M.length) := fun B F As σ E H v w S r1 r2 Q q => by
  obtain ⟨a, vs, rfl, ha, pa⟩ := h1.view S r1
  obtain ⟨c, ws, rfl, hc, pc⟩ := h2.view S r2
  exact ⟨a, c, vs, ws, rfl, rfl, ha, hc, sz (by rw [← pa.1, ← pc.1]; exact hl), fun p hp => ev_lstNewM S hp (pa.append pc) q⟩
theorem any_rows (ns : List Int) : ∀ rows : List (List Int), ((rows.map fun r => PyData.list (r.map PyData.int)).any fun z => PyData.eqv z (.list (ns.map PyData.int))) = decide (ns ∈ rows)
  | [] => rfl
  | r :: rows => by
    rw [List.map_cons, List.any_cons, any_rows ns rows, eqv_ints]
    by_cases h : ns = r
    · rw [decide_eq_true h.symm, decide_eq_true (show ns ∈ r :: rows from h ▸ List.mem_cons_self)]; rfl
    · rw [decide_eq_false (fun z => h z.symm), Bool.false_or]
      by_cases g : ns ∈ rows
      · rw [decide_eq_true g, decide_eq_true (List.mem_cons_of_mem _ g)]
      · rw [decide_eq_false g, decide_eq_false fun z => by
          rcases List.mem_cons.mp z with z | z
          · exact h z
          · exact g z]
theorem od_notinR {ns : List Int} {rows : List (List Int)} (h : IsLst M y (rows.map fun r => D.lst (r.map D.int))) : OpD K (rNotInD K) M (rints ns) y M (rbl (!decide (ns ∈ rows))) := OpD.pure fun B F H As σ E v w S r1 r2 Q q => by
  obtain ⟨a, vs, rfl, ha, pa⟩ := h.view S r2
  have rH : R K H (rowsD rows) (.ref a) := R.lst' ha (pa.imp fun _ _ z => R.mono z S.ex)
  exact ⟨.list (ns.map PyData.int), rows.map fun r => PyData.list (r.map PyData.int), (PyOf.ints ns).dp S.ex r1, (PyOf.rows rows).dp (Ex.refl H) rH, PySem.W.ke_shaped_ints _, rows_shaped rows, by rw [any_rows]; exact q _ (.bl _)⟩
/-- for x in xs, xs data; the loop's base is the def's, but for what was frozen before -/
theorem s_forLB {D : Ends} {u : TS} {tl : TE} {j : Nat} {ds : List DL.D} (S : Sta K B F As M σ E H) (ha : EvD K tl M E M1 (.dat (.lst ds))) (P : Nat → List MC → List (Option Rv) → Prop) (h0 : P 0 M1 E)
    (hb : ∀ (G : Hp), Cv K (B.up G) B → ∀ (i : Nat) (d : DL.D) M E, ds[i]? = some d → P i M E → Nxt K (B.up G) M (E.set j (some (.dat d))) (u { D with nx := NxP K (B.up G) (P (i + 1)), ct := NxP K (B.up G) (P (i + 1)), bk := D.nx }))
    (hd : ∀ M E, P ds.length M E → Nxt K B M E D.nx) : tFor (iList K tl) (gName j) u D σ H :=
  ha B F As σ H S _ fun vs F1 As1 H1 S1 _ _ r1 => by
    obtain ⟨a, ws, rfl, hA, pa⟩ := R.lst_inv r1
    refine ⟨a, rfl, ⟨ws, SqL.of (S1.ex _ _ hA)⟩, for_list (K := K) (a := a) (xs := ws) (fun i => NxP K (B.up F1) (P i)) ⟨F1, As1, M1, E, S1.toUp, h0⟩ (fun i σ' H' _ ⟨F2, As2, M2, E2, S2, hP⟩ => SqL.of (S2.ex _ _ (S2.bF _ _ hA))) (fun i x σ' H' hi ⟨F2, As2, M2, E2, S2, hP⟩ => ?_) (fun σ' H' ⟨F2, As2, M2, E2, S2, hP⟩ => hd M2 E2 (by rw [pa.1]; exact hP) _ _ _ _ (S1.ofUp S2))⟩
    obtain ⟨d, hd, rd⟩ := pa.flip.get hi
    exact hb F1 (fun S => S1.ofUp S) i d M2 E2 hd hP _ _ _ _ (S2.set (r := .dat d) (R.mono rd S2.bF))
theorem q_forLB {D : Ends} {u u' : TS} {tl : TE} {j : Nat} {ds : List DL.D} (S : Sta K B F As M σ E H) (ha : EvD K tl M E M1 (.dat (.lst ds))) (P : Nat → List MC → List (Option Rv) → Prop) (h0 : P 0 M1 E)
    (hb : ∀ (G : Hp), Cv K (B.up G) B → ∀ (i : Nat) (d : DL.D) M E, ds[i]? = some d → P i M E → Nxt K (B.up G) M (E.set j (some (.dat d))) (u { D with nx := NxP K (B.up G) (P (i + 1)), ct := NxP K (B.up G) (P (i + 1)), bk := u' D }))
    (hd : ∀ M E, P ds.length M E → Nxt K B M E (u' D)) : tSeq (tFor (iList K tl) (gName j) u) u' D σ H := s_forLB (D := { D with nx := u' D }) S ha P h0 hb hd
end
end DL
set_option Elab.async false
set_option linter.all false
set_option maxRecDepth 100000
set_option maxHeartbeats 4000000
/-! DL: shifts and odd numbers; a comprehension over a cell of numbers; lists of numbers that differ. -/
namespace DL
open PySem L2 PySem.Spec PyProof.Rows
open Evl (Ex)
section
variable {K : PySem.W.Frag} {M M1 M2 : List MC} {E : List (Option Rv)} {tl te : TE} {tt : TT} {x y : Rv} {j : Nat}
theorem od_shl1 {k : Nat} (h : k ≤ 134217727) : OpD K (fun x y H Q => ∃ k : Nat, x = .int 1 ∧ y = .int (k : Int) ∧ k ≤ 134217727 ∧ Q (.int (2 ^ k)) H) M (rint 1) (rint (k : Int)) M (rint ((2 ^ k : Nat) : Int)) := OpD.pure fun B F H As σ E v w S r1 r2 Q q => by
  cases R.int_inv r1; cases R.int_inv r2
  refine ⟨k, rfl, rfl, h, ?_⟩
  have e : ((2 ^ k : Nat) : Int) = 2 ^ k := by rw [Int.natCast_pow]; rfl
  rw [← e]
  exact q _ (.int _)
theorem od_odd {n : Nat} : OpD K (fun x y H Q => ∃ n : Nat, x = .int (n : Int) ∧ y = .int 1 ∧ Q (.int ((n % 2 : Nat) : Int)) H) M (rint (n : Int)) (rint 1) M (rint ((n % 2 : Nat) : Int)) := OpD.pure fun B F H As σ E v w S r1 r2 Q q => by
  cases R.int_inv r1; cases R.int_inv r2
  exact ⟨n, rfl, rfl, q _ (.int _)⟩
/-- [e for x in xs if t], xs a list of numbers, data or a cell -/
theorem ev_lcCI {ns : List Int} (p : Int → Bool) (f : Int → D) (ha : EvD K tl M E M1 x) (hx : IsLst M1 x (ns.map D.int)) (hn : ns.length ≤ 16777000)
    (ht : ∀ n ∈ ns, EvT K tt M1 (E.set j (some (rint n))) M1 (p n)) (he : ∀ n ∈ ns, p n = true → EvD K te M1 (E.set j (some (rint n))) M1 (.dat (f n))) :
    EvD K (tLc (iList K tl) (gName j) tt te [j]) M E M1 (.dat (.lst ((ns.filter p).map f))) := fun B F As σ H S Q q =>
  ha B F As σ H S _ fun v F1 As1 H1 S1 e1 p1 r1 => by
    obtain ⟨a, ws, rfl, hA, pa⟩ := hx.view S1 r1
    have ew := P2.ints pa
    subst ew
    refine ⟨a, rfl, ⟨_, SqL.of hA⟩, fun p0 hp => lc_list (K := K) (a := a) (xs := ns.map V.int) (LcW K F1 H1 As1 (fun _ => M1) (fun i => p (gI ns (i : Nat))) (fun i => f (gI ns (i : Nat))) σ E p0) (lcw_start S1 hp rfl) (fun i H' _ ⟨F', As', acc, S', hF, hA', hpre, _⟩ => ?_) (fun i y H' hi h => ?_) fun H' h => ?_⟩
    · obtain ⟨b, zs, e, hb2, pz⟩ := hx.view S' (r1.mono S'.bF hpre)
      have e : a = b := by injection e
      subst e
      rw [P2.ints pz] at hb2
      exact SqL.of hb2
    · rw [List.getElem?_map] at hi
      cases c : ns[i]? with
      | none => rw [c] at hi; cases hi
      | some n =>
        rw [c] at hi; cases hi
        have hm := List.mem_of_getElem? c
        have eg : gI ns (i : Nat) = n := by
          unfold gI
          rw [Int.toNat_natCast, List.getD_eq_getElem?_getD, c]; rfl
        have hil := (List.getElem?_eq_some_iff.mp c).1
        obtain ⟨Mt, h1, h2, h3⟩ := LcT.tested (f := fun i => p (gI ns (i : Nat))) (v := fun i => f (gI ns (i : Nat))) (i := i) (by rw [eg]; exact ht n hm) (by rw [eg]; exact he n hm)
        exact ⟨wipe_one σ j _, lcw_turn h (by omega) (fun F' eF As' _ hE => hE.setW (r := rint n) (.int n)) h1 h2 h3⟩
    · rw [List.length_map] at h
      refine lcw_done S1 hp h fun u F' As' H' S' e' p' r' => ?_
      rw [givD_list] at r'
      exact q u F' As' H' S' (e1.trans e') (p1.trans p') r'
theorem od_neLI {ns ms : List Int} (h1 : IsLst M x (ns.map D.int)) (h2 : IsLst M y (ms.map D.int)) : OpD K (rNeD K) M x y M (rbl (!decide (ns = ms))) := OpD.pure fun B F H As σ E v w S r1 r2 Q q => by
  obtain ⟨a, vs, rfl, ha, pa⟩ := h1.view S r1
  obtain ⟨b, ws, rfl, hb, pb⟩ := h2.view S r2
  have ra : R K H (dints ns) (.ref a) := R.lst' ha (pa.imp fun _ _ z => R.mono z S.ex)
  have rb : R K H (dints ms) (.ref b) := R.lst' hb (pb.imp fun _ _ z => R.mono z S.ex)
  exact ⟨_, _, (PyOf.ints ns).dp (Ex.refl H) ra, (PyOf.ints ms).dp (Ex.refl H) rb, PySem.W.ke_shaped_ints _, PySem.W.ke_shaped_ints _, by rw [eqv_ints]; exact q _ (.bl _)⟩
end
end DL
set_option Elab.async false
set_option linter.all false
set_option maxRecDepth 100000
set_option maxHeartbeats 4000000
/-! DL: sorted(set(xs)) of a list of numbers. -/
namespace DL
open PySem L2 PySem.Spec PyProof.Rows
section
variable {P : Program} {w : World} {A : Around} {E : Value → Shared → Prop} {s : Shared}
/-- the new set's object -/
def newSet (w : World) : Obj := { cls := .type "set", dict := none, data := .set #[] 0 (.fresh 0 0 (!w.params.followText "set-order")) }
set_option maxHeartbeats 3200000 in
/-- set(xs), xs a list of numbers (the tuple's road, L2.call_set_tupI, taken over a list) -/
theorem call_set_ints {l : Addr} {items : Array Value} (ns : List Int) {Q : Value → Shared → Prop} (hh : A.handled = none) (hl : s.heap.IsList l items) (hit : IntsAre items.toList ns) (hb : ns.length + 1 < scanBound)
    (h : ∀ (h' : Heap) (tk c : Nat), SetR w h' s.heap.objs.size (fun j => decide (j ∈ ns)) c → c ≤ ns.length → (∀ b o, s.heap.get? b = some o → h'.get? b = some o) → Q (.ref s.heap.objs.size) { s with heap := h', toks := tk }) :
    wpAny (model P w) A (call (.type "set") [.ref l]) Q E s := by
  have hsz : items.size = ns.length := by rw [← Array.length_toList]; exact IntsAre.length hit
  obtain ⟨c, tl, hmro⟩ := F.called_set.mro
  have hmade := F.called_set.made
  have hsub := F.called_set.sub
  have h1 := F.called_set.notType
  have h2 := F.called_set.canCreate
  have hct := F.typeCall_set_1 (.ref l)
  refine wpAny_call (codeAny_of_tree ?_)
  show wpAny _ _ (callAny (.type "set") _) _ _ _
  refine wpAny_pure ⟨Code.quiet_builtin _ (by decide +kernel), codeAny_builtin F.entry_type_call ?_⟩
  rw [Around.under_plain (weight_type_call_type "set" [.ref l] []) rfl]
  repeat (any_goals (first | assumption | wp_step))

  refine codeAny_mono (code_set_led1 (.ref l) (E := E) (Q₁ := fun obj s₁ => obj = .ref s.heap.objs.size ∧ s₁ = { s with heap := s.heap.push (newSet w) }) ⟨rfl, rfl⟩) fun r s₁ hr => ?_
  cases r with
  | error e => exact hr
  | ok fl =>
    cases fl with
    | next | brk | cont => exact hr.elim
    | ret obj =>
      obtain ⟨rfl, rfl⟩ := hr
      have hS : (s.heap.push (newSet w)).get? s.heap.objs.size = some (newSet w) := Heap.get?_push_size _ rfl
      have hT : Shared.TypeIs { s with heap := s.heap.push (newSet w) } (.ref s.heap.objs.size) "set" := ⟨_, hS, rfl⟩
      have hli := F.called_set.init.lookup
      have hbi := F.called_set.init.bind (.ref s.heap.objs.size)
      repeat (any_goals (first | assumption | wp_step))

      refine codeAny_mono (codeAny_call_builtin (R := wants (fun r s₂ => r = .none ∧ ∃ h' tk c, s₂ = { s with heap := h', toks := tk } ∧ SetR w h' s.heap.objs.size (fun j => decide (j ∈ ns)) c ∧ c ≤ ns.length ∧
          (∀ b o, s.heap.get? b = some o → h'.get? b = some o)) E) F.called_set.init.plain F.entry_set_init (check_set_init_1 hT ?_)) fun r₂ s₂ hr₂ => ?_
      · have hlS : l < s.heap.objs.size := Heap.lt_size hl.choose_spec.1
        have hl1 : (s.heap.push (newSet w)).IsList l items := hl.push _
        obtain ⟨ol, hol, hcl, nl, hdl⟩ := hl1
        obtain ⟨ocls, odict, odata, oslots⟩ := ol
        simp only at hcl hdl
        subst hcl; subst hdl
        have hsls := F.sub_list_set
        have hslf := F.sub_list_frozenset
        have hne : (Value.type "list" == Value.type "dict") = false := by decide
        have hl2 : (s.heap.push (newSet w)).IsList l items := ⟨_, hol, rfl, nl, rfl⟩
        unfold Builtin.«set.__init__» noKeywords Builtin.Frozenset.updateFrom
        generalize hPI : pyIter = PI
        wp_walk
        subst hPI

        refine wpAny_pyIter_list hl2 (wpAny_bind (wpAny_runValue ?_))
        have hh3 : A.in1.in1.in1.handled = none := by simp [hh]
        have es : (s.heap.push (newSet w)).objs.size = s.heap.objs.size + 1 := Heap.size_push ..
        have hneI : l ≠ (s.heap.push (newSet w)).objs.size := by rw [es]; exact Nat.ne_of_lt (Nat.lt_succ_of_lt hlS)
        have hSf : s.heap.objs.size ∉ [(s.heap.push (newSet w)).objs.size, l] := by
          rw [es]
          simp only [List.mem_cons, List.not_mem_nil, or_false, not_or]
          exact ⟨Nat.ne_of_lt (Nat.lt_succ_self _), Nat.ne_of_gt hlS⟩
        have hval : ∀ (i : Nat) (v : Value), items[i]? = some v → ∃ k t, ns[i]? = some k ∧ v = .int k t := fun i v hv => by
          have hi : i < ns.length := by rw [← hsz]; exact (Array.getElem?_eq_some_iff.mp hv).1
          obtain ⟨t, e⟩ := IntsAre.int_at hit i v (by rw [Array.getElem?_toList]; exact hv)
          refine ⟨ns[i], t, List.getElem?_eq_getElem hi, ?_⟩
          rw [e, List.getD_eq_getElem?_getD, List.getElem?_eq_getElem hi] <;> rfl
        refine set_update_ints ((Walks.list hh3 _ l hneI items).toS) s.heap.objs.size hSf ns hsz hb hval (items.size - 0) 0 _ (by omega) (Nat.zero_le _)
          ⟨⟨_, Heap.get?_push_size _ rfl, rfl, rfl⟩, hl2.push _⟩ ⟨0, Nat.le_refl 0, setR_new_at (Heap.get?_push_of_some _ hS)⟩ ?_
        intro s' c' hm hc' hS'
        obtain ⟨h', g2, d', tk', os'⟩ := s'
        obtain rfl : g2 = s.gens := hm.gens
        obtain rfl : d' = s.drawn := hm.drawn
        obtain rfl : os' = s.os := hm.os
        show wpAny _ _ _ _ _ _
        refine wpAny_pure ?_
        show wpAny _ _ (ret Value.none) _ _ _
        refine wpAny_pure ⟨rfl, h', tk', c', rfl, hS', by omega, fun b o e => ?_⟩
        have hb0 : b < s.heap.objs.size := Heap.lt_size e
        refine hm.heap b o ?_ (Heap.get?_push_of_some _ (Heap.get?_push_of_some _ e))
        rw [es]
        simp only [List.mem_cons, List.not_mem_nil, or_false, not_or]
        exact ⟨Nat.ne_of_lt hb0, Nat.ne_of_lt (Nat.lt_succ_of_lt hb0)⟩

      · cases r₂ with
        | error e => exact hr₂
        | ok fl₂ =>
          cases fl₂ with
          | next | brk | cont => exact hr₂.elim
          | ret r =>
            obtain ⟨rfl, h', tk, c', rfl, hS', hc', hk'⟩ := hr₂
            repeat (any_goals (first | assumption | wp_step))
            exact h _ _ _ hS' hc' hk'
end
/-- set(xs): a set object beside -/
def rSetL (w : World) (K : PySem.W.Frag) : List V → Hp → VK → Prop := fun vs H Q => ∃ (p : Addr) (ns : List Int), vs = [V.ref p] ∧ SqL K H p (ns.map V.int) ∧ ns.length ≤ 1000 ∧ ∀ (l : Addr) (c : Nat), H l = none → c ≤ ns.length → Q (.ref l) (upd H l (SetO w l (fun j => decide (j ∈ ns)) c))
theorem cr_setL {X : Cx} (hc : X.calm = true) : CallR X (.type "set") (rSetL X.w X.K) := by
  intro pins s σ H vs us Q I r h
  obtain ⟨p, ns, rfl, hq, hl, q⟩ := h
  rw [Vals.ref1 r]
  obtain ⟨its, rv, pl, hz⟩ := I.list hq
  obtain ⟨o, n, h1, h2, h3, h4⟩ := pl
  refine call_set_ints ns (I.ok.hd hc) ⟨o, h1, h2, n, h4⟩ (ints_of_vals rv) (by unfold scanBound; omega) fun h' tk c R hcn k => ?_
  exact ⟨.ref _, upd H s.heap.objs.size (SetO X.w s.heap.objs.size (fun j => decide (j ∈ ns)) c), I.laid (t' := tk) k (Nat.le_refl _) (setO_new R), rfl, q _ _ (I.hok.fresh (Nat.le_refl _)) hcn⟩
/-- sorted(set(xs)), fewer than 64 numbers: beside the new list some object is left behind -/
def rSortSet (K : PySem.W.Frag) : List V → Hp → VK → Prop := fun vs H Q => ∃ (a : Addr) (ns : List Int), vs = [V.ref a] ∧ SqL K H a (ns.map V.int) ∧ ns.length < 64 ∧
  ∀ (l p : Addr) (φ : Heap → Prop) (ms : List Int), H l = none → p ≠ l → H p = none → ms.Pairwise (· < ·) → (∀ k : Int, k ∈ ms ↔ k ∈ ns) → Q (.ref p) (upd (upd H l (.ext φ)) p (.lst (ms.map V.int)))
theorem pe_mono {X : Cx} {e : Expr} {t t' : TE} (h : PE X e t) (i : ∀ σ H Q, t' σ H Q → t σ H Q) : PE X e t' := ⟨fun pins s σ H Q I q => h.run pins s σ H Q I (i σ H Q q)⟩
theorem pe_sortSet {X : Cx} {K : PySem.W.Frag} {e : Expr} {ta : TA} {p pos p2 pos2 : Pos} (hK : X.K = K) (hc : X.calm = true) (hg : Gl X "sorted") (hm : X.mg "sorted" = none) (hg2 : Gl X "set") (hm2 : X.mg "set" = none) (ha : PA X [e] ta)
    (he : starEach [e] X.env = (false, eval e X.env) :: starEach [] X.env := by rfl) (he2 : starEach [.Call (.Name "set" p2) [e] [] pos2] X.env = (false, eval (.Call (.Name "set" p2) [e] [] pos2) X.env) :: starEach [] X.env := by rfl) :
    PE X (.Call (.Name "sorted" p) [.Call (.Name "set" p2) [e] [] pos2] [] pos) (tCB (rSortSet K) ta) := by
  subst hK
  have ha' : PA X [e] (fun σ H P => ∃ P0, ta σ H P0 ∧ ∀ vs H1, P0 vs H1 → P vs H1) := ⟨fun pos pins s σ H Q I ⟨P0, h, i⟩ => thn (ha.run pos pins s σ H P0 I h) fun us s1 ⟨vs, H1, I1, r1, q1⟩ => ⟨vs, H1, I1, r1, i vs H1 q1⟩⟩
  refine pe_mono (pe_callB (cr_sortedSet hc) hg hm (by decide +kernel) (pa_cons (pe_callTy (cr_setL hc) hg2 hm2 (by decide +kernel) ha' (he := he)) pa_nil) (he := he2)) fun σ H Q q => ?_
  refine ⟨_, q, fun vs H1 ⟨a, ns, e1, hq, hl, q1⟩ => ⟨a, ns, e1, hq, by omega, fun l c h0 hcn => ⟨l, _, c, rfl, upd_same, by omega, fun ms p hs hm hn hp => ?_⟩⟩⟩
  have hpl : p ≠ l := fun z => by rw [z, upd_same] at hp; cases hp
  rw [upd_ne hpl] at hp
  exact q1 l p _ ms h0 hpl hp hs fun k => by rw [hm k, decide_eq_true_eq]
/-! ### each number once, rising -/
def insU (x : Int) : List Int → List Int
  | [] => [x]
  | y :: l => if x < y then x :: y :: l else if x = y then y :: l else y :: insU x l
def sortU (ns : List Int) : List Int := ns.foldr insU []
theorem insU_mem {x k : Int} : ∀ l : List Int, k ∈ insU x l ↔ k = x ∨ k ∈ l
  | [] => by simp [insU]
  | y :: l => by
    unfold insU
    split
    · simp
    · split
      · rename_i h; subst h; simp
      · have ih := insU_mem (x := x) (k := k) l
        simp only [List.mem_cons, ih]
        constructor
        · rintro (h | h | h)
          · exact .inr (.inl h)
          · exact .inl h
          · exact .inr (.inr h)
        · rintro (h | h | h)
          · exact .inr (.inl h)
          · exact .inl h
          · exact .inr (.inr h)
theorem insU_pair {x : Int} : ∀ l : List Int, l.Pairwise (· < ·) → (insU x l).Pairwise (· < ·)
  | [], _ => by simp [insU]
  | y :: l, h => by
    obtain ⟨h1, h2⟩ := List.pairwise_cons.mp h
    unfold insU
    split
    · rename_i c
      refine List.pairwise_cons.mpr ⟨fun z hz => ?_, h⟩
      rcases List.mem_cons.mp hz with rfl | hz
      · exact c
      · exact Int.lt_trans c (h1 z hz)
    · split
      · exact h
      · refine List.pairwise_cons.mpr ⟨fun z hz => ?_, insU_pair l h2⟩
        rcases (insU_mem l).mp hz with rfl | hz
        · omega
        · exact h1 z hz
theorem sortU_mem {k : Int} : ∀ ns : List Int, k ∈ sortU ns ↔ k ∈ ns
  | [] => Iff.rfl
  | x :: ns => by
    show k ∈ insU x (sortU ns) ↔ _
    rw [insU_mem, sortU_mem ns, List.mem_cons]
theorem sortU_pair : ∀ ns : List Int, (sortU ns).Pairwise (· < ·)
  | [] => List.Pairwise.nil
  | x :: ns => insU_pair _ (sortU_pair ns)
theorem lt_unique {xs ys : List Int} (h1 : xs.Pairwise (· < ·)) (h2 : ys.Pairwise (· < ·)) (h : ∀ k, k ∈ xs ↔ k ∈ ys) : xs = ys := by
  have n1 : xs.Nodup := h1.imp (fun {a b} (h : a < b) => Int.ne_of_lt h)
  have n2 : ys.Nodup := h2.imp (fun {a b} (h : a < b) => Int.ne_of_lt h)
  have p : xs.Perm ys := (List.perm_ext_iff_of_nodup n1 n2).mpr h
  exact p.eq_of_pairwise (fun a b _ _ h1 h2 => absurd (Int.lt_trans h1 h2) (Int.lt_irrefl _)) h1 h2
open Evl (Ex)
section
variable {K : PySem.W.Frag} {B : Base} {F H : Hp} {As : List Addr} {M M1 : List MC} {σ : L2.St} {E : List (Option Rv)} {ta : TA} {x : Rv}
/-- a thing laid beside and forgotten -/
theorem Sta.beside (S : Sta K B F As M σ E H) {p : Addr} {o : HO} (hp : H p = none) : Sta K B F As M σ E (upd H p o) := by
  have hF := S.fresh hp
  refine ⟨Ex.mut S.ex hF, S.len, S.nd, fun k a mc h1 h2 h3 => ?_, S.slots, S.bF, fun a u h hP => ?_, S.bN, S.bA, fun a u h => ?_, fun a h => ?_, S.pA⟩
  · obtain ⟨h4, o', h5, h6⟩ := S.cell k a mc h1 h2 h3
    exact ⟨h4, o', by rw [upd_ne (ne_of_none h5 hp)]; exact h5, h6⟩
  · have q := S.bH a u h hP
    rw [upd_ne (ne_of_none q hp)]; exact q
  · obtain ⟨u', q⟩ := S.bK a u h
    exact ⟨u', by rw [upd_ne (ne_of_none q hp)]; exact q⟩
  · obtain ⟨u', q⟩ := S.kn a h
    exact ⟨u', by rw [upd_ne (ne_of_none q hp)]; exact q⟩
theorem ev_sortSet {ns : List Int} (ha : EvA K ta M E M1 [x]) (hx : IsLst M1 x (ns.map D.int)) (hn : ns.length < 64) : EvD K (tCB (rSortSet K) ta) M E M1 (rints (sortU ns)) := fun B F As σ H S Q q =>
  ha B F As σ H S _ fun vs F1 As1 H1 S1 e1 p1 r1 => by
    obtain ⟨v, rfl, hv⟩ := r1.one
    obtain ⟨a, ws, rfl, hA, pa⟩ := hx.view S1 hv
    refine ⟨a, ns, rfl, SqL.of (by rw [← pa.ints]; exact hA), hn, fun l p φ ms h0 hpl hp hs hm => ?_⟩
    have e : ms = sortU ns := lt_unique hs (sortU_pair ns) fun k => by rw [hm k, sortU_mem]
    subst e
    exact ev_lstNew (S1.beside h0) (by rw [upd_ne hpl]; exact hp) (P2.ofInts _) fun w F' As' H' S' e' p' r' => q w F' As' H' S' (e1.trans e') (p1.trans p') r'
end
end DL
set_option Elab.async false
set_option linter.all false
set_option maxRecDepth 100000
set_option maxHeartbeats 4000000
/-! DL: comprehensions of two clauses, over lists of numbers. -/
namespace DL
open PySem L2 PySem.Spec PyProof.Rows
open Evl (Ex)
theorem ES.none {K : PySem.W.Frag} {F : Hp} {As : List Addr} {σ : L2.St} {E : List (Option Rv)} (h : ES K F As σ E) (i : Nat) : ES K F As (σ.set i none) (E.set i none) := ⟨by rw [List.length_set, List.length_set]; exact h.1, fun j r g => by
  by_cases e : i = j
  · subst e
    by_cases hi : i < E.length
    · rw [List.getElem?_set_self hi] at g; cases g
    · rw [List.getElem?_eq_none (by rw [List.length_set]; omega)] at g; cases g
  · rw [List.getElem?_set_ne e] at g
    rw [List.getElem?_set_ne e]
    exact h.2 j r g⟩
section
variable {K : PySem.W.Frag} {B : Base} {F F1 H H1 H' G : Hp} {As As1 : List Addr} {M M1 : List MC} {σ σ2 : L2.St} {E E2 : List (Option Rv)} {tl tl1 te : TE} {tt : TT} {b : Bool} {ds : List D} {d : D} {r : Rv}
/-- the word of a block: its list so far; what G holds is held -/
def LcX (K : PySem.W.Frag) (F1 H1 : Hp) (As1 : List Addr) (M1 : List MC) (σ : L2.St) (E : List (Option Rv)) (p : Addr) (G : Hp) (ds : List D) (H' : Hp) : Prop :=
  ∃ F' As' acc, Sta K (Base.at F1 H1 As1 p (.lst [])) F' As' M1 σ E H' ∧ F' p = none ∧ p ∉ As' ∧ As1 <+: As' ∧ H' p = some (.lst acc) ∧ P2 (R K F') ds acc ∧ Ex G F'
theorem LcX.sub {p : Addr} {G' : Hp} (h : LcX K F1 H1 As1 M1 σ E p G ds H') (e : Ex G' G) : LcX K F1 H1 As1 M1 σ E p G' ds H' := by
  obtain ⟨F', As', acc, h1, h2, h3, h4, h5, h6, h7⟩ := h
  exact ⟨F', As', acc, h1, h2, h3, h4, h5, h6, e.trans h7⟩
/-- a thing reckoned within a block -/
theorem lcx_ev {p : Addr} (h : LcX K F1 H1 As1 M1 σ E p G ds H') (hES : ∀ F', Ex F1 F' → ∀ As', As1 <+: As' → ES K F' As' σ E → ES K F' As' σ2 E2) (he : EvD K te M1 E2 M1 r) {Q : VK}
    (q : ∀ u F3 As3 H3, RV K F3 As3 r u → LcX K F1 H1 As1 M1 σ E p F3 ds H3 → Ex G F3 → Q u H3) : te σ2 H' Q := by
  obtain ⟨F', As', acc, S', hF, hA, hpre, hH, hr, hG⟩ := h
  have S2 : Sta K (Sta.self F' H' As') F' As' M1 σ2 E2 H' := ⟨S'.ex, S'.len, S'.nd, S'.cell, hES F' S'.bF As' hpre S'.slots, Ex.refl F', fun a o h _ => h, fun a o _ h => h, fun a h => .inl h, fun a o h => ⟨o, h⟩, S'.kn, List.prefix_refl _⟩
  refine he _ _ _ _ _ S2 _ fun u F3 As3 H3 S3 e3 p3 r3 => ?_
  have hA3 : p ∉ As3 := fun z => by
    rcases S3.bA p z with q | q
    · exact hA q
    · have q : H' p = none := q
      rw [hH] at q; cases q
  have back : Sta K (Base.at F1 H1 As1 p (.lst [])) F3 As3 M1 σ E H3 := S'.rebase ⟨S3.ex, S3.len, S3.nd, S3.cell, S'.slots.mono S3.bF p3, S3.bF, S3.bH, S3.bN, S3.bA, S3.bK, S3.kn, S3.pA⟩
  exact q u F3 As3 H3 r3 ⟨F3, As3, acc, back, S3.bN p _ hH hF, hA3, hpre.trans p3, S3.bH p _ hH hA, hr.imp fun _ _ z => z.mono e3, Ex.refl F3⟩ (hG.trans e3)
theorem lcx_test {p : Addr} (h : LcX K F1 H1 As1 M1 σ E p G ds H') (hES : ∀ F', Ex F1 F' → ∀ As', As1 <+: As' → ES K F' As' σ E → ES K F' As' σ2 E2) (he : EvT K tt M1 E2 M1 b) {Q : Bool → Hp → Prop}
    (q : ∀ H3, LcX K F1 H1 As1 M1 σ E p G ds H3 → Q b H3) : tt σ2 H' Q := by
  obtain ⟨F', As', acc, S', hF, hA, hpre, hH, hr, hG⟩ := h
  have S2 : Sta K (Sta.self F' H' As') F' As' M1 σ2 E2 H' := ⟨S'.ex, S'.len, S'.nd, S'.cell, hES F' S'.bF As' hpre S'.slots, Ex.refl F', fun a o h _ => h, fun a o _ h => h, fun a h => .inl h, fun a o h => ⟨o, h⟩, S'.kn, List.prefix_refl _⟩
  refine he _ _ _ _ _ S2 _ fun F3 As3 H3 S3 e3 p3 => ?_
  have hA3 : p ∉ As3 := fun z => by
    rcases S3.bA p z with q | q
    · exact hA q
    · have q : H' p = none := q
      rw [hH] at q; cases q
  have back : Sta K (Base.at F1 H1 As1 p (.lst [])) F3 As3 M1 σ E H3 := S'.rebase ⟨S3.ex, S3.len, S3.nd, S3.cell, S'.slots.mono S3.bF p3, S3.bF, S3.bH, S3.bN, S3.bA, S3.bK, S3.kn, S3.pA⟩
  exact q H3 ⟨F3, As3, acc, back, S3.bN p _ hH hF, hA3, hpre.trans p3, S3.bH p _ hH hA, hr.imp fun _ _ z => z.mono e3, hG.trans e3⟩
/-- an element reckoned and put behind -/
theorem lcx_put {p : Addr} (h : LcX K F1 H1 As1 M1 σ E p G ds H') (hES : ∀ F', Ex F1 F' → ∀ As', As1 <+: As' → ES K F' As' σ E → ES K F' As' σ2 E2) (he : EvD K te M1 E2 M1 (.dat d)) (hl : ds.length < 16777000) {Nx : Hp → Prop}
    (q : ∀ H3, LcX K F1 H1 As1 M1 σ E p G (ds ++ [d]) H3 → Nx H3) : te σ2 H' fun y H7 => ∃ acc, H7 p = some (.lst acc) ∧ acc.length < sizeLine ∧ Nx (upd H7 p (.lst (acc ++ [y]))) := by
  refine lcx_ev h hES he fun u F3 As3 H3 r3 h3 e3 => ?_
  obtain ⟨F', As', acc, S', hF, hA, hpre, hH, hr, hG⟩ := h3
  refine ⟨acc, hH, szlt (by rw [← hr.1]; omega), q _ ⟨F', As', acc ++ [u], S'.other hF hA (.inr rfl) ⟨_, hH⟩, hF, hA, hpre, upd_same, hr.append (P2.single (R.mono r3 hG)), e3.trans hG⟩⟩
/-- [e for x in xs for y in ys if t] -/
def lc2D (xs ys : List Int) (p : Int → Int → Bool) (f : Int → Int → D) : List D := (xs.map fun x => (ys.filter (p x)).map (f x)).flatten
theorem lc2D_step {xs ys : List Int} {p : Int → Int → Bool} {f : Int → Int → D} {i : Nat} {x : Int} (h : xs[i]? = some x) : lc2D (xs.take (i + 1)) ys p f = lc2D (xs.take i) ys p f ++ (ys.filter (p x)).map (f x) := by
  unfold lc2D
  rw [List.take_add_one, h, List.map_append, List.flatten_append]
  show _ ++ ((ys.filter (p x)).map (f x) ++ []) = _
  rw [List.append_nil]
theorem lc2D_len {ys : List Int} {p : Int → Int → Bool} {f : Int → Int → D} : ∀ xs : List Int, (lc2D xs ys p f).length ≤ xs.length * ys.length
  | [] => Nat.zero_le _
  | x :: xs => by
    have ih := lc2D_len (p := p) (f := f) (ys := ys) xs
    have h := List.length_filter_le (p x) ys
    show ((ys.filter (p x)).map (f x) ++ lc2D xs ys p f).length ≤ _
    rw [List.length_append, List.length_map, List.length_cons, Nat.succ_mul]
    omega
theorem ev_lc2 {tt1 : TT} {j j1 : Nat} {xs ys : List Int} (p : Int → Int → Bool) (f : Int → Int → D) (ha : EvD K tl M E M1 (rints xs)) (hxs : xs.length ≤ 1000) (hys : ys.length ≤ 1000) (hne : j ≠ j1)
    (hb : ∀ x ∈ xs, EvD K tl1 M1 ((E.set j1 none).set j (some (rint x))) M1 (rints ys))
    (ht : ∀ x ∈ xs, ∀ y ∈ ys, EvT K tt1 M1 (((E.set j1 none).set j (some (rint x))).set j1 (some (rint y))) M1 (p x y))
    (he : ∀ x ∈ xs, ∀ y ∈ ys, p x y = true → EvD K te M1 (((E.set j1 none).set j (some (rint x))).set j1 (some (rint y))) M1 (.dat (f x y))) :
    EvD K (tLc2 (iList K tl) (gName j) tYes (iList K tl1) (gName j1) tt1 te [j, j1] [j1]) M E M1 (.dat (.lst (lc2D xs ys p f))) := fun B F As σ H S Q q =>
  ha B F As σ H S _ fun w F1 As1 H1 S1 e1 p1 r1 => by
    obtain ⟨a, ws, rfl, hA, pa⟩ := R.lst_inv r1
    have ew := P2.ints pa
    subst ew
    refine ⟨a, rfl, ⟨_, SqL.of (S1.ex _ _ hA)⟩, fun D hD => ?_⟩
    refine ⟨fun i m H' => m = xs.length - i ∧ i ≤ xs.length ∧ LcX K F1 H1 As1 M1 σ E D F1 (lc2D (xs.take i) ys p f) H', ⟨xs.length, rfl, Nat.zero_le _, F1, As1, [], S1.toAt hD, S1.fresh hD, S1.off hD, List.prefix_refl _, upd_same, P2.nil, Ex.refl F1⟩, ?_⟩
    rintro i m H2 ⟨rfl, hi, hw⟩
    have hsq : SqL K H2 a (xs.map V.int) := by
      obtain ⟨F', As', acc, S', _⟩ := hw
      exact SqL.of (S'.ex _ _ (S'.bF _ _ hA))
    by_cases hlt : i < xs.length
    · have hxi : xs[i]? = some xs[i] := List.getElem?_eq_getElem hlt
      have hxm : xs[i] ∈ xs := List.getElem_mem hlt
      have hst := lc2D_step (ys := ys) (p := p) (f := f) hxi
      generalize xs[i] = x at hxi hxm hst
      have hll := lc2D_len (ys := ys) (p := p) (f := f) (xs.take i)
      have htl : (xs.take i).length ≤ 1000 := by rw [List.length_take]; omega
      have hl3 : (lc2D (xs.take i) ys p f).length ≤ 1000000 := Nat.le_trans hll (Nat.mul_le_mul htl hys)
      refine .inr ⟨⟨xs.map V.int, V.int x, hsq, by rw [List.getElem?_map, hxi]; rfl⟩, LcX K F1 H1 As1 M1 σ E D F1 (lc2D (xs.take (i + 1)) ys p f), fun H' h => ⟨xs.length - (i + 1), by omega, rfl, hlt, h⟩, fun v H' y => ?_⟩
      obtain ⟨e, y⟩ := y
      subst e
      have hv := y _ hsq
      rw [List.getElem?_map, hxi] at hv
      cases hv
      have wp : wipe ((wipe σ [j, j1]).set j (some (V.int x))) [j, j1] = wipe σ [j, j1] := by
        show ((((σ.set j1 none).set j none).set j (some (V.int x))).set j1 none).set j none = (σ.set j1 none).set j none
        rw [List.set_set, List.set_comm _ _ hne, List.set_set, List.set_set]
      refine ⟨wp, ?_⟩
      have hES : ∀ F', Ex F1 F' → ∀ As', As1 <+: As' → ES K F' As' σ E → ES K F' As' ((wipe σ [j, j1]).set j (some (V.int x))) ((E.set j1 none).set j (some (rint x))) := fun F' _ As' _ hE => by
        show ES K F' As' (((σ.set j1 none).set j none).set j (some (V.int x))) _
        rw [List.set_set]
        exact (hE.none j1).set (.int x)
      unfold tYes
      dsimp only
      rw [if_pos rfl]
      unfold iList
      refine lcx_ev hw hES (hb x hxm) fun u F3 As3 H3 r3 h3 e3 => ?_
      obtain ⟨b, ws, rfl, hB, pb⟩ := R.lst_inv r3
      have ew := P2.ints pb
      subst ew
      have sq3 : ∀ {H'} {ds}, LcX K F1 H1 As1 M1 σ E D F3 ds H' → SqL K H' b (ys.map V.int) := fun h => by
        obtain ⟨F', As', acc, S', _, _, _, _, _, hG⟩ := h
        exact SqL.of (S'.ex _ _ (hG _ _ hB))
      refine ⟨b, rfl, ⟨_, sq3 h3⟩, ?_⟩
      refine ⟨fun k m H' => m = ys.length - k ∧ k ≤ ys.length ∧ LcX K F1 H1 As1 M1 σ E D F3 (lc2D (xs.take i) ys p f ++ ((ys.take k).filter (p x)).map (f x)) H', ⟨ys.length, rfl, Nat.zero_le _, ?_⟩, ?_⟩
      · show LcX K F1 H1 As1 M1 σ E D F3 (lc2D (xs.take i) ys p f ++ []) H3
        rw [List.append_nil]; exact h3
      rintro k m H4 ⟨rfl, hk, hw4⟩
      by_cases hlk : k < ys.length
      · have hyk : ys[k]? = some ys[k] := List.getElem?_eq_getElem hlk
        have hym : ys[k] ∈ ys := List.getElem_mem hlk
        generalize ys[k] = y at hyk hym
        refine .inr ⟨⟨ys.map V.int, V.int y, sq3 hw4, by rw [List.getElem?_map, hyk]; rfl⟩, LcX K F1 H1 As1 M1 σ E D F3 (lc2D (xs.take i) ys p f ++ ((ys.take (k + 1)).filter (p x)).map (f x)), fun H' h => ⟨ys.length - (k + 1), by omega, rfl, hlk, h⟩, fun v H' z => ?_⟩
        obtain ⟨e, z⟩ := z
        subst e
        have hv := z _ (sq3 hw4)
        rw [List.getElem?_map, hyk] at hv
        cases hv
        refine ⟨wipe_one _ j1 _, ?_⟩
        have hES2 : ∀ F', Ex F1 F' → ∀ As', As1 <+: As' → ES K F' As' σ E → ES K F' As' ((wipe ((wipe σ [j, j1]).set j (some (V.int x))) [j1]).set j1 (some (V.int y))) (((E.set j1 none).set j (some (rint x))).set j1 (some (rint y))) := fun F' e As' pr hE => (hES F' e As' pr hE).setW (r := rint y) (.int y)
        refine lcx_test hw4 hES2 (ht x hxm y hym) fun H6 h6 => ?_
        have tk : (ys.take (k + 1)).filter (p x) = (ys.take k).filter (p x) ++ if p x y = true then [y] else [] := by
          rw [List.take_add_one, hyk, List.filter_append]
          congr 1
          show [y].filter (p x) = _
          by_cases c : p x y = true
          · rw [if_pos c, List.filter_cons, if_pos c]; rfl
          · rw [if_neg c, List.filter_cons, if_neg c]; rfl
        rw [tk]
        cases hp : p x y with
        | false =>
          show LcX _ _ _ _ _ _ _ _ _ (_ ++ ((ys.take k).filter (p x) ++ []).map (f x)) H6
          rw [List.append_nil]; exact h6
        | true =>
          show te _ H6 _
          have hl6 : ((ys.take k).filter (p x)).length ≤ 1000 := Nat.le_trans (List.length_filter_le _ _) (by rw [List.length_take]; omega)
          refine lcx_put h6 hES2 (he x hxm y hym hp) (by rw [List.length_append, List.length_map]; omega) fun H7 h7 => ?_
          show LcX _ _ _ _ _ _ _ _ _ (_ ++ ((ys.take k).filter (p x) ++ [y]).map (f x)) H7
          rw [List.map_append, ← List.append_assoc]
          exact h7
      · have ek : k = ys.length := by omega
        subst ek
        refine .inl ⟨⟨ys.map V.int, sq3 hw4, by rw [List.length_map]; exact Nat.le_refl _⟩, ?_⟩
        rw [hst]
        rw [List.take_length] at hw4
        exact hw4.sub e3
    · have ei : i = xs.length := by omega
      subst ei
      refine .inl ⟨⟨xs.map V.int, hsq, by rw [List.length_map]; exact Nat.le_refl _⟩, ?_⟩
      rw [List.take_length] at hw
      obtain ⟨F', As', acc, S', hF, hA', hpre, hH, hr, hG⟩ := hw
      obtain ⟨S2, e2⟩ := S1.adopt hD S' hF hA' hH
      exact q _ _ _ _ S2 ((e1.trans S'.bF).trans e2) (p1.trans hpre) (R.lst' upd_same (hr.imp fun _ _ z => z.mono e2))
end
end DL
set_option Elab.async false
set_option linter.all false
set_option maxRecDepth 100000
set_option maxHeartbeats 2000000
/-! DL: a comprehension over range(n) whose elements are cells: a list of cells comes. -/
namespace DL
open PySem L2
open Evl (Ex)
section
variable {K : PySem.W.Frag} {B : Base} {F F' F1 H H' H1 : Hp} {As As' As1 : List Addr} {M M0 M1 M2 M3 M' : List MC} {σ σ' : St} {E E' : List (Option Rv)} {ta tb te tx : TE} {x y z r : Rv}
def LcC (K : PySem.W.Frag) (F1 H1 : Hp) (As1 : List Addr) (Ms : Nat → List MC) (v : Nat → Rv) (σ : St) (E : List (Option Rv)) (p : Addr) (i : Nat) (H' : Hp) : Prop :=
  ∃ F' As' acc, Sta K (Base.at F1 H1 As1 p (.lst [])) F' As' (Ms i) σ E H' ∧ F' p = none ∧ p ∉ As' ∧ As1 <+: As' ∧ H' p = some (.lst acc) ∧ P2 (RV K F' As') ((List.range i).map v) acc
theorem lcc_turn {Ms : Nat → List MC} {v : Nat → Rv} {p : Addr} {i : Nat} {σ2 : St} {E2 : List (Option Rv)} (h : LcC K F1 H1 As1 Ms v σ E p i H') (hi : i < 16777000)
    (hES : ∀ F', Ex F1 F' → ∀ As', As1 <+: As' → ES K F' As' σ E → ES K F' As' σ2 E2)
    (he : EvD K te (Ms i) E2 (Ms (i + 1)) (v i)) :
    tYes σ2 H' fun b H3 => if b = true then te σ2 H3 fun y H4 => ∃ acc, H4 p = some (.lst acc) ∧ acc.length < sizeLine ∧ LcC K F1 H1 As1 Ms v σ E p (i + 1) (upd H4 p (.lst (acc ++ [y]))) else LcC K F1 H1 As1 Ms v σ E p (i + 1) H3 := by
  obtain ⟨F', As', acc, S', hF, hA, hpre, hH, hr⟩ := h
  have S3 : Sta K (Sta.self F' H' As') F' As' (Ms i) σ2 E2 H' := ⟨S'.ex, S'.len, S'.nd, S'.cell, hES F' S'.bF As' hpre S'.slots, Ex.refl F', fun a o h _ => h, fun a o _ h => h, fun a h => .inl h, fun a o h => ⟨o, h⟩, S'.kn, List.prefix_refl _⟩
  have back : ∀ {F4 As4 M4 H4}, Sta K (Sta.self F' H' As') F4 As4 M4 σ2 E2 H4 → As' <+: As4 → Sta K (Base.at F1 H1 As1 p (.lst [])) F4 As4 M4 σ E H4 := fun {F4 As4 M4 H4} S4 p4 =>
    S'.rebase ⟨S4.ex, S4.len, S4.nd, S4.cell, S'.slots.mono S4.bF p4, S4.bF, S4.bH, S4.bN, S4.bA, S4.bK, S4.kn, S4.pA⟩
  show te σ2 H' fun y H4 => ∃ acc, H4 p = some (.lst acc) ∧ acc.length < sizeLine ∧ LcC K F1 H1 As1 Ms v σ E p (i + 1) (upd H4 p (.lst (acc ++ [y])))
  refine he _ _ _ _ _ S3 _ fun u F4 As4 H4 S4 e4 p4 r4 => ?_
  have hH4 : H4 p = some (.lst acc) := S4.bH p _ hH hA
  have hF4 : F4 p = none := S4.bN p _ hH hF
  have hA4 : p ∉ As4 := fun z => by
    rcases S4.bA p z with q | q
    · exact hA q
    · have q : H' p = none := q
      rw [hH] at q; cases q
  refine ⟨acc, hH4, szlt ?_, F4, As4, acc ++ [u], ?_, hF4, hA4, hpre.trans p4, upd_same, ?_⟩
  · have := hr.1
    rw [List.length_map, List.length_range] at this; omega
  · exact (back S4 p4).other hF4 hA4 (.inr rfl) ⟨_, hH4⟩
  · rw [List.range_succ, List.map_append]
    exact (hr.imp fun _ _ z => z.mono e4 p4).append (P2.single r4)
theorem lcc_done (S1 : Sta K B F1 As1 M0 σ E H1) {p : Addr} (hp : H1 p = none) {Ms : Nat → List MC} {v : Nat → Rv} {n : Nat} (h : LcC K F1 H1 As1 Ms v σ E p n H') {Q : VK}
    (q : ∀ u F' As' H', Sta K B F' As' (Ms n ++ [.deep (.lst ((List.range n).map v))]) σ E H' → Ex F1 F' → As1 <+: As' → RV K F' As' (.cel (Ms n).length) u → Q u H') : Q (.ref p) H' := by
  obtain ⟨F', As', acc, S', hF, hA, hpre, hH, hr⟩ := h
  have b0 := S1.base_off hp
  have S2 : Sta K B F' (As' ++ [p]) (Ms n ++ [.deep (.lst ((List.range n).map v))]) σ E H' := by
    refine ⟨S'.ex, by rw [List.length_append, List.length_append, S'.len]; rfl, ?_, fun k a mc h1 h2 h3 => ?_, S'.slots.mono (Ex.refl F') (List.prefix_append _ _), S1.bF.trans S'.bF, fun a u h hP => ?_, fun a u h h0 => ?_, fun a h => ?_, fun a u h => ?_, fun a h => ?_, (S1.pA.trans S'.pA).trans (List.prefix_append _ _)⟩
    · rw [List.nodup_append]
      refine ⟨S'.nd, by simp, fun a ha b hb e => ?_⟩
      simp at hb
      subst e; subst hb; exact hA ha
    · rcases getElem?_concat h1 with q1 | ⟨q1, q2⟩
      · rcases getElem?_concat h2 with q3 | ⟨q3, q4⟩
        · obtain ⟨z1, o, z2, z3⟩ := S'.cell k a mc q1 q3 h3
          exact ⟨z1, o, z2, z3.mono2 (Ex.refl _) (List.prefix_append _ _)⟩
        · have := (List.getElem?_eq_some_iff.mp q1).1
          rw [S'.len] at this; omega
      · rcases getElem?_concat h2 with q3 | ⟨q3, q4⟩
        · have := (List.getElem?_eq_some_iff.mp q3).1
          rw [← S'.len] at this; omega
        · subst q2; subst q4
          exact ⟨hF, _, hH, acc, rfl, hr.imp fun _ _ z => z.mono (Ex.refl _) (List.prefix_append _ _)⟩
    · have e : a ≠ p := ne_of_none h b0
      refine S'.bH a u (by show upd H1 p _ a = _; rw [upd_ne e]; exact S1.bH a u h hP) fun z => ?_
      rcases z with z | z
      · rcases S1.bA a z with q | q
        · exact hP q
        · rw [q] at h; cases h
      · exact e z
    · have e : a ≠ p := ne_of_none h b0
      obtain ⟨u', q⟩ := S1.bK a u h
      exact S'.bN a u' (by show upd H1 p _ a = _; rw [upd_ne e]; exact q) (S1.bN a u h h0)
    · rcases List.mem_append.mp h with h | h
      · rcases S'.bA a h with (q | q) | q
        · exact S1.bA a q
        · exact absurd (q ▸ h) hA
        · refine .inr ?_
          have : H1 a = none := by
            have q : upd H1 p _ a = none := q
            by_cases e : a = p
            · subst e; rw [upd_same] at q; cases q
            · rwa [upd_ne e] at q
          exact S1.base_off this
      · simp at h; subst h; exact .inr b0
    · have e : a ≠ p := ne_of_none h b0
      obtain ⟨u', q⟩ := S1.bK a u h
      exact S'.bK a u' (by show upd H1 p _ a = _; rw [upd_ne e]; exact q)
    · rcases List.mem_append.mp h with h | h
      · exact S'.kn a h
      · simp at h; subst h; exact ⟨_, hH⟩
  exact q _ _ _ _ S2 S'.bF (hpre.trans (List.prefix_append _ _)) ⟨p, by rw [List.getElem?_append_right (by rw [S'.len]; exact Nat.le_refl _), S'.len]; simp, rfl⟩
/-- [e for x in range(n)], the elements cells -/
theorem ev_lcR1C {t : TA} {j : Nat} {n : Int} (Ms : Nat → List MC) (v : Nat → Rv) (ha : EvA K t M E M1 [rint n]) (hn : -16777000 ≤ n ∧ n ≤ 16777000) (h0 : Ms 0 = M1)
    (hb : ∀ i : Nat, (i : Int) < n → EvD K te (Ms i) (E.set j (some (rint (i : Int)))) (Ms (i + 1)) (v i)) : EvD K (tLc (iRng1 t) (gName j) tYes te [j]) M E (Ms n.toNat ++ [.deep (.lst ((List.range n.toNat).map v))]) (.cel (Ms n.toNat).length) := fun B F As σ H S Q q =>
  ha B F As σ H S _ fun vs F1 As1 H1 S1 e1 p1 r1 => by
    obtain ⟨w, rfl, hw⟩ := r1.one
    cases R.int_inv hw
    refine ⟨n, rfl, by omega, by omega, fun p hp => lc_range (lo := 0) (n := n.toNat) (LcC K F1 H1 As1 Ms v σ E p) ?_ (fun i H' hi h => ?_) fun H' h => lcc_done S1 hp h fun u F' As' H' S' e' p' r' => q u F' As' H' S' (e1.trans e') (p1.trans p') r'⟩
    · refine ⟨F1, As1, [], ?_, S1.fresh hp, S1.off hp, List.prefix_refl _, upd_same, P2.nil⟩
      rw [h0]
      exact S1.toAt hp
    · have e0 : (0 : Int) + (i : Int) = (i : Int) := Int.zero_add _
      rw [e0]
      exact ⟨wipe_one σ j _, lcc_turn h (by omega) (fun F' _ As' _ hE => hE.setW (r := rint (i : Int)) (.int _)) (hb i (by omega))⟩
theorem ev_or2 {c : Bool} (h1 : EvD K ta M E M1 (rbl false)) (h2 : EvD K tb M1 E M2 (rbl c)) : EvD K (tOrV ta tb) M E M2 (rbl c) := fun B F As σ H S Q q => h1 B F As σ H S _ fun v F1 As1 H1 S1 e1 p1 r1 => ⟨false, R.bl_inv r1, h2 B F1 As1 σ H1 S1 Q fun v F2 As2 H2 S2 e2 p2 r2 => q v F2 As2 H2 S2 (e1.trans e2) (p1.trans p2) r2⟩
variable {d1 d2 d3 d4 : D} {De : Ends} {uv : TS}
/-- a, b, c = e -/
theorem s_tup3 {i j k : Nat} (S : Sta K B F As M σ E H) (h : EvD K te M E M' (.dat (.tup [d1, d2, d3]))) (kk : Nxt K B M' (((E.set i (some (.dat d1))).set j (some (.dat d2))).set k (some (.dat d3))) De.nx) : tAsg te (gTup K 3 (gCons (gName i) (gCons (gName j) (gCons (gName k) gNil)))) De σ H :=
  h B F As σ H S _ fun v F1 As1 H1 S1 _ _ rv => by
    obtain ⟨a, vs, rfl, ha, pa⟩ := R.tup_inv rv
    obtain ⟨v1, ws, rfl, r1, pa⟩ := pa.inv_cons
    obtain ⟨v2, ws, rfl, r2, pa⟩ := pa.inv_cons
    obtain ⟨v3, ws, rfl, r3, pa⟩ := pa.inv_cons
    have := pa.inv_nil; subst this
    exact ⟨a, [v1, v2, v3], rfl, SqT.of (S1.ex _ _ ha), rfl, v1, _, rfl, v2, _, rfl, v3, [], rfl, rfl, kk _ _ _ _ (((S1.set (r := .dat d1) r1).set (r := .dat d2) r2).set (r := .dat d3) r3)⟩
theorem q_tup3 {i j k : Nat} (S : Sta K B F As M σ E H) (h : EvD K te M E M' (.dat (.tup [d1, d2, d3]))) (kk : Nxt K B M' (((E.set i (some (.dat d1))).set j (some (.dat d2))).set k (some (.dat d3))) (uv De)) : tSeq (tAsg te (gTup K 3 (gCons (gName i) (gCons (gName j) (gCons (gName k) gNil))))) uv De σ H := s_tup3 (De := { De with nx := uv De }) S h kk
/-- a, b, c, d = e -/
theorem s_tup4 {i j k l : Nat} (S : Sta K B F As M σ E H) (h : EvD K te M E M' (.dat (.tup [d1, d2, d3, d4]))) (kk : Nxt K B M' ((((E.set i (some (.dat d1))).set j (some (.dat d2))).set k (some (.dat d3))).set l (some (.dat d4))) De.nx) : tAsg te (gTup K 4 (gCons (gName i) (gCons (gName j) (gCons (gName k) (gCons (gName l) gNil))))) De σ H :=
  h B F As σ H S _ fun v F1 As1 H1 S1 _ _ rv => by
    obtain ⟨a, vs, rfl, ha, pa⟩ := R.tup_inv rv
    obtain ⟨v1, ws, rfl, r1, pa⟩ := pa.inv_cons
    obtain ⟨v2, ws, rfl, r2, pa⟩ := pa.inv_cons
    obtain ⟨v3, ws, rfl, r3, pa⟩ := pa.inv_cons
    obtain ⟨v4, ws, rfl, r4, pa⟩ := pa.inv_cons
    have := pa.inv_nil; subst this
    exact ⟨a, [v1, v2, v3, v4], rfl, SqT.of (S1.ex _ _ ha), rfl, v1, _, rfl, v2, _, rfl, v3, _, rfl, v4, [], rfl, rfl, kk _ _ _ _ ((((S1.set (r := .dat d1) r1).set (r := .dat d2) r2).set (r := .dat d3) r3).set (r := .dat d4) r4)⟩
theorem q_tup4 {i j k l : Nat} (S : Sta K B F As M σ E H) (h : EvD K te M E M' (.dat (.tup [d1, d2, d3, d4]))) (kk : Nxt K B M' ((((E.set i (some (.dat d1))).set j (some (.dat d2))).set k (some (.dat d3))).set l (some (.dat d4))) (uv De)) : tSeq (tAsg te (gTup K 4 (gCons (gName i) (gCons (gName j) (gCons (gName k) (gCons (gName l) gNil)))))) uv De σ H := s_tup4 (De := { De with nx := uv De }) S h kk
end
end DL
set_option Elab.async false
set_option linter.all false
set_option maxRecDepth 100000
set_option maxHeartbeats 4000000
namespace K09
open PySem L2 DL
def topS (i : Nat) : Stmt := PySem.Challenge.pw_nextpair_k09_pairs_below_any_row.main.body.getD i (.Pass ⟨0, 0, 0, 0⟩)
abbrev s_TooMany___init__ : Stmt := inClass (topS 3) 0
abbrev N_TooMany___init__ : List Str := ["self", "what"]
theorem sc_TooMany___init__ : FnScope N_TooMany___init__ ["self", "what"] (defScope s_TooMany___init__) := ⟨rfl, rfl, rfl, by decide +kernel, rfl, by decide +kernel, by decide +kernel⟩
abbrev s_BadSize___init__ : Stmt := inClass (topS 4) 0
abbrev N_BadSize___init__ : List Str := ["self", "what", "place"]
theorem sc_BadSize___init__ : FnScope N_BadSize___init__ ["self", "what", "place"] (defScope s_BadSize___init__) := ⟨rfl, rfl, rfl, by decide +kernel, rfl, by decide +kernel, by decide +kernel⟩
abbrev s_BadStock___init__ : Stmt := inClass (topS 5) 0
abbrev N_BadStock___init__ : List Str := ["self", "what"]
theorem sc_BadStock___init__ : FnScope N_BadStock___init__ ["self", "what"] (defScope s_BadStock___init__) := ⟨rfl, rfl, rfl, by decide +kernel, rfl, by decide +kernel, by decide +kernel⟩
abbrev s_check : Stmt := topS 12
abbrev N_check : List Str := ["what", "number"]
theorem sc_check : FnScope N_check ["what", "number"] (defScope s_check) := ⟨rfl, rfl, rfl, by decide +kernel, rfl, by decide +kernel, by decide +kernel⟩
abbrev s_check_within : Stmt := topS 13
abbrev N_check_within : List Str := ["what", "number", "bound"]
theorem sc_check_within : FnScope N_check_within ["what", "number", "bound"] (defScope s_check_within) := ⟨rfl, rfl, rfl, by decide +kernel, rfl, by decide +kernel, by decide +kernel⟩
abbrev s_check_sizes : Stmt := topS 17
abbrev N_check_sizes : List Str := ["what", "sizes", "top", "place", "size"]
theorem sc_check_sizes : FnScope N_check_sizes ["what", "sizes", "top"] (defScope s_check_sizes) := ⟨rfl, rfl, rfl, by decide +kernel, rfl, by decide +kernel, by decide +kernel⟩
abbrev s_check_stock_top : Stmt := topS 18
abbrev N_check_stock_top : List Str := ["top"]
theorem sc_check_stock_top : FnScope N_check_stock_top ["top"] (defScope s_check_stock_top) := ⟨rfl, rfl, rfl, by decide +kernel, rfl, by decide +kernel, by decide +kernel⟩
abbrev s_turns_of : Stmt := topS 15
abbrev N_turns_of : List Str := ["row", "found", "place"]
theorem sc_turns_of : FnScope N_turns_of ["row"] (defScope s_turns_of) := ⟨rfl, rfl, rfl, by decide +kernel, rfl, by decide +kernel, by decide +kernel⟩
abbrev s_skyline_of : Stmt := topS 16
abbrev N_skyline_of : List Str := ["top", "bores", "pins", "rises", "size", "against", "found", "level"]
theorem sc_skyline_of : FnScope N_skyline_of ["top", "bores", "pins"] (defScope s_skyline_of) := ⟨rfl, rfl, rfl, by decide +kernel, rfl, by decide +kernel, by decide +kernel⟩
abbrev s_with_pieces : Stmt := topS 21
abbrev N_with_pieces : List Str := ["top", "bores", "pins", "made"]
theorem sc_with_pieces : FnScope N_with_pieces ["top", "bores", "pins"] (defScope s_with_pieces) := ⟨rfl, rfl, rfl, by decide +kernel, rfl, by decide +kernel, by decide +kernel⟩
abbrev s_without : Stmt := topS 22
abbrev N_without : List Str := ["sizes", "size", "at"]
theorem sc_without : FnScope N_without ["sizes", "size"] (defScope s_without) := ⟨rfl, rfl, rfl, by decide +kernel, rfl, by decide +kernel, by decide +kernel⟩
abbrev s_Stock___init__ : Stmt := inClass (topS 23) 0
abbrev N_Stock___init__ : List Str := ["self", "top", "bores", "pins"]
theorem sc_Stock___init__ : FnScope N_Stock___init__ ["self", "top", "bores", "pins"] (defScope s_Stock___init__) := ⟨rfl, rfl, rfl, by decide +kernel, rfl, by decide +kernel, by decide +kernel⟩
abbrev s_Stock_top : Stmt := inClass (topS 23) 1
abbrev N_Stock_top : List Str := ["self"]
theorem sc_Stock_top : FnScope N_Stock_top ["self"] (defScope s_Stock_top) := ⟨rfl, rfl, rfl, by decide +kernel, rfl, by decide +kernel, by decide +kernel⟩
abbrev s_Stock_bores : Stmt := inClass (topS 23) 2
abbrev N_Stock_bores : List Str := ["self"]
theorem sc_Stock_bores : FnScope N_Stock_bores ["self"] (defScope s_Stock_bores) := ⟨rfl, rfl, rfl, by decide +kernel, rfl, by decide +kernel, by decide +kernel⟩
abbrev s_Stock_pins : Stmt := inClass (topS 23) 3
abbrev N_Stock_pins : List Str := ["self"]
theorem sc_Stock_pins : FnScope N_Stock_pins ["self"] (defScope s_Stock_pins) := ⟨rfl, rfl, rfl, by decide +kernel, rfl, by decide +kernel, by decide +kernel⟩
abbrev s_Stock_skyline : Stmt := inClass (topS 23) 4
abbrev N_Stock_skyline : List Str := ["self"]
theorem sc_Stock_skyline : FnScope N_Stock_skyline ["self"] (defScope s_Stock_skyline) := ⟨rfl, rfl, rfl, by decide +kernel, rfl, by decide +kernel, by decide +kernel⟩
abbrev s_Stock_turns : Stmt := inClass (topS 23) 5
abbrev N_Stock_turns : List Str := ["self"]
theorem sc_Stock_turns : FnScope N_Stock_turns ["self"] (defScope s_Stock_turns) := ⟨rfl, rfl, rfl, by decide +kernel, rfl, by decide +kernel, by decide +kernel⟩
abbrev s_Stock_spare : Stmt := inClass (topS 23) 6
abbrev N_Stock_spare : List Str := ["self"]
theorem sc_Stock_spare : FnScope N_Stock_spare ["self"] (defScope s_Stock_spare) := ⟨rfl, rfl, rfl, by decide +kernel, rfl, by decide +kernel, by decide +kernel⟩
abbrev s_Stock_come : Stmt := inClass (topS 23) 7
abbrev N_Stock_come : List Str := ["self", "bore", "pin"]
theorem sc_Stock_come : FnScope N_Stock_come ["self", "bore", "pin"] (defScope s_Stock_come) := ⟨rfl, rfl, rfl, by decide +kernel, rfl, by decide +kernel, by decide +kernel⟩
abbrev s_Stock_give : Stmt := inClass (topS 23) 8
abbrev N_Stock_give : List Str := ["self", "pin", "bore"]
theorem sc_Stock_give : FnScope N_Stock_give ["self", "pin", "bore"] (defScope s_Stock_give) := ⟨rfl, rfl, rfl, by decide +kernel, rfl, by decide +kernel, by decide +kernel⟩
abbrev s_Stock_can_give : Stmt := inClass (topS 23) 9
abbrev N_Stock_can_give : List Str := ["self", "pin_sizes", "bore_sizes", "pin", "bore"]
theorem sc_Stock_can_give : FnScope N_Stock_can_give ["self"] (defScope s_Stock_can_give) := ⟨rfl, rfl, rfl, by decide +kernel, rfl, by decide +kernel, by decide +kernel⟩
abbrev s_exact_size : Stmt := topS 7
abbrev N_exact_size : List Str := ["stock", "bores", "size"]
theorem sc_exact_size : FnScope N_exact_size ["stock"] (defScope s_exact_size) := ⟨rfl, rfl, rfl, by decide +kernel, rfl, by decide +kernel, by decide +kernel⟩
abbrev s_bore_behind : Stmt := topS 8
abbrev N_bore_behind : List Str := ["stock", "pin", "bores", "size", "pins"]
theorem sc_bore_behind : FnScope N_bore_behind ["stock", "pin"] (defScope s_bore_behind) := ⟨rfl, rfl, rfl, by decide +kernel, rfl, by decide +kernel, by decide +kernel⟩
abbrev s_step : Stmt := topS 9
abbrev N_step : List Str := ["stock", "row", "skyline", "at", "size", "pin", "bore"]
theorem sc_step : FnScope N_step ["stock", "row"] (defScope s_step) := ⟨rfl, rfl, rfl, by decide +kernel, rfl, by decide +kernel, by decide +kernel⟩
abbrev s__law_purse : Stmt := topS 30
abbrev N__law_purse : List Str := ["script", "at", "cell", "one", "size"]
theorem sc__law_purse : FnScope N__law_purse ["script", "at"] (defScope s__law_purse) := ⟨rfl, rfl, rfl, by decide +kernel, rfl, by decide +kernel, by decide +kernel⟩
abbrev s__law_draw : Stmt := topS 31
abbrev N__law_draw : List Str := ["purse", "many", "found"]
theorem sc__law_draw : FnScope N__law_draw ["purse", "many"] (defScope s__law_draw) := ⟨rfl, rfl, rfl, by decide +kernel, rfl, by decide +kernel, by decide +kernel⟩
abbrev s__law_matches : Stmt := topS 32
abbrev N__law_matches : List Str := ["answer", "due", "at"]
theorem sc__law_matches : FnScope N__law_matches ["answer", "due"] (defScope s__law_matches) := ⟨rfl, rfl, rfl, by decide +kernel, rfl, by decide +kernel, by decide +kernel⟩
abbrev s__law_below : Stmt := topS 33
abbrev N__law_below : List Str := ["bores", "e", "bore"]
theorem sc__law_below : FnScope N__law_below ["bores", "e"] (defScope s__law_below) := ⟨rfl, rfl, rfl, by decide +kernel, rfl, by decide +kernel, by decide +kernel⟩
abbrev s__law_above : Stmt := topS 34
abbrev N__law_above : List Str := ["pins", "e", "pin"]
theorem sc__law_above : FnScope N__law_above ["pins", "e"] (defScope s__law_above) := ⟨rfl, rfl, rfl, by decide +kernel, rfl, by decide +kernel, by decide +kernel⟩
abbrev s__law_sky : Stmt := topS 35
abbrev N__law_sky : List Str := ["top", "bores", "pins", "e"]
theorem sc__law_sky : FnScope N__law_sky ["top", "bores", "pins"] (defScope s__law_sky) := ⟨rfl, rfl, rfl, by decide +kernel, rfl, by decide +kernel, by decide +kernel⟩
abbrev s__law_turns : Stmt := topS 36
abbrev N__law_turns : List Str := ["row", "total", "at"]
theorem sc__law_turns : FnScope N__law_turns ["row"] (defScope s__law_turns) := ⟨rfl, rfl, rfl, by decide +kernel, rfl, by decide +kernel, by decide +kernel⟩
abbrev s__law_bent : Stmt := topS 37
abbrev N__law_bent : List Str := ["row", "q", "p"]
theorem sc__law_bent : FnScope N__law_bent ["row", "q", "p"] (defScope s__law_bent) := ⟨rfl, rfl, rfl, by decide +kernel, rfl, by decide +kernel, by decide +kernel⟩
abbrev s__law_within : Stmt := topS 39
abbrev N__law_within : List Str := ["row", "other", "at"]
theorem sc__law_within : FnScope N__law_within ["row", "other"] (defScope s__law_within) := ⟨rfl, rfl, rfl, by decide +kernel, rfl, by decide +kernel, by decide +kernel⟩
abbrev s__law_drawn_stock : Stmt := topS 25
abbrev N__law_drawn_stock : List Str := ["purse", "top", "q", "p", "bores", "turn", "pins"]
theorem sc__law_drawn_stock : FnScope N__law_drawn_stock ["purse", "top", "q", "p"] (defScope s__law_drawn_stock) := ⟨rfl, rfl, rfl, by decide +kernel, rfl, by decide +kernel, by decide +kernel⟩
abbrev s__law_exact_many : Stmt := topS 26
abbrev N__law_exact_many : List Str := ["bores", "pins", "left", "many", "pin"]
theorem sc__law_exact_many : FnScope N__law_exact_many ["bores", "pins"] (defScope s__law_exact_many) := ⟨rfl, rfl, rfl, by decide +kernel, rfl, by decide +kernel, by decide +kernel⟩
abbrev s__law_couples : Stmt := topS 27
abbrev N__law_couples : List Str := ["bores", "pins", "found", "pin", "bore"]
theorem sc__law_couples : FnScope N__law_couples ["bores", "pins"] (defScope s__law_couples) := ⟨rfl, rfl, rfl, by decide +kernel, rfl, by decide +kernel, by decide +kernel⟩
abbrev s__law_told : Stmt := topS 28
abbrev N__law_told : List Str := ["stock"]
theorem sc__law_told : FnScope N__law_told ["stock"] (defScope s__law_told) := ⟨rfl, rfl, rfl, by decide +kernel, rfl, by decide +kernel, by decide +kernel⟩
abbrev s__law_due : Stmt := topS 29
abbrev N__law_due : List Str := ["top", "bores", "pins", "sky", "bent"]
theorem sc__law_due : FnScope N__law_due ["top", "bores", "pins"] (defScope s__law_due) := ⟨rfl, rfl, rfl, by decide +kernel, rfl, by decide +kernel, by decide +kernel⟩
abbrev s__law_eased : Stmt := topS 38
abbrev N__law_eased : List Str := ["top", "pair", "e"]
theorem sc__law_eased : FnScope N__law_eased ["top", "pair"] (defScope s__law_eased) := ⟨rfl, rfl, rfl, by decide +kernel, rfl, by decide +kernel, by decide +kernel⟩
abbrev s__law_summed : Stmt := topS 40
abbrev N__law_summed : List Str := ["row", "other", "at"]
theorem sc__law_summed : FnScope N__law_summed ["row", "other"] (defScope s__law_summed) := ⟨rfl, rfl, rfl, by decide +kernel, rfl, by decide +kernel, by decide +kernel⟩
abbrev s__law_without : Stmt := topS 41
abbrev N__law_without : List Str := ["pieces", "piece", "left"]
theorem sc__law_without : FnScope N__law_without ["pieces", "piece"] (defScope s__law_without) := ⟨rfl, rfl, rfl, by decide +kernel, rfl, by decide +kernel, by decide +kernel⟩
abbrev s__law_step : Stmt := topS 42
abbrev N__law_step : List Str := ["top", "bores", "pins", "row", "exact", "pin", "due", "one", "larger", "size", "bore", "e"]
theorem sc__law_step : FnScope N__law_step ["top", "bores", "pins", "row"] (defScope s__law_step) := ⟨rfl, rfl, rfl, by decide +kernel, rfl, by decide +kernel, by decide +kernel⟩
abbrev s__law_k09_pieces : Stmt := topS 43
abbrev N__law_k09_pieces : List Str := ["purse", "top", "q", "p", "kinds", "size", "at", "bore_sizes", "pin_sizes", "bores", "turn"]
theorem sc__law_k09_pieces : FnScope N__law_k09_pieces ["purse", "top"] (defScope s__law_k09_pieces) := ⟨rfl, rfl, rfl, by decide +kernel, rfl, by decide +kernel, by decide +kernel⟩
abbrev s__law_k09_rows : Stmt := topS 44
abbrev N__law_k09_rows : List Str := ["purse", "top", "bores", "pins", "low", "one", "many", "rows", "e", "couples", "pair", "just", "at"]
theorem sc__law_k09_rows : FnScope N__law_k09_rows ["purse", "top", "bores", "pins"] (defScope s__law_k09_rows) := ⟨rfl, rfl, rfl, by decide +kernel, rfl, by decide +kernel, by decide +kernel⟩
abbrev s__law_k09_keeps : Stmt := topS 45
abbrev N__law_k09_keeps : List Str := ["top", "bores", "pins", "pair", "row", "left"]
theorem sc__law_k09_keeps : FnScope N__law_k09_keeps ["top", "bores", "pins", "pair", "row"] (defScope s__law_k09_keeps) := ⟨rfl, rfl, rfl, by decide +kernel, rfl, by decide +kernel, by decide +kernel⟩
abbrev s__law_k09_one : Stmt := topS 46
abbrev N__law_k09_one : List Str := ["stock", "top", "bores", "pins", "row", "given", "told", "due", "keeping", "pair", "left"]
theorem sc__law_k09_one : FnScope N__law_k09_one ["stock", "top", "bores", "pins", "row"] (defScope s__law_k09_one) := ⟨rfl, rfl, rfl, by decide +kernel, rfl, by decide +kernel, by decide +kernel⟩
abbrev s__law_k09_great : Stmt := topS 47
abbrev N__law_k09_great : List Str := ["purse", "top", "q", "bores", "pins", "beat", "stock", "sky", "row", "one", "wide"]
theorem sc__law_k09_great : FnScope N__law_k09_great ["purse"] (defScope s__law_k09_great) := ⟨rfl, rfl, rfl, by decide +kernel, rfl, by decide +kernel, by decide +kernel⟩
abbrev s_law : Stmt := topS 48
abbrev N_law : List Str := ["script", "purses", "side", "stocks", "turn", "purse", "top", "bores", "pins", "stock", "row", "other"]
theorem sc_law : FnScope N_law ["script"] (defScope s_law) := ⟨rfl, rfl, rfl, by decide +kernel, rfl, by decide +kernel, by decide +kernel⟩
structure Ad where
  a_TooMany___init__ : Addr
  a_BadSize___init__ : Addr
  a_BadStock___init__ : Addr
  a_check : Addr
  a_check_within : Addr
  a_check_sizes : Addr
  a_check_stock_top : Addr
  a_turns_of : Addr
  a_skyline_of : Addr
  a_with_pieces : Addr
  a_without : Addr
  a_Stock___init__ : Addr
  a_Stock_top : Addr
  a_Stock_bores : Addr
  a_Stock_pins : Addr
  a_Stock_skyline : Addr
  a_Stock_turns : Addr
  a_Stock_spare : Addr
  a_Stock_come : Addr
  a_Stock_give : Addr
  a_Stock_can_give : Addr
  a_exact_size : Addr
  a_bore_behind : Addr
  a_step : Addr
  a__law_purse : Addr
  a__law_draw : Addr
  a__law_matches : Addr
  a__law_below : Addr
  a__law_above : Addr
  a__law_sky : Addr
  a__law_turns : Addr
  a__law_bent : Addr
  a__law_within : Addr
  a__law_drawn_stock : Addr
  a__law_exact_many : Addr
  a__law_couples : Addr
  a__law_told : Addr
  a__law_due : Addr
  a__law_eased : Addr
  a__law_summed : Addr
  a__law_without : Addr
  a__law_step : Addr
  a__law_k09_pieces : Addr
  a__law_k09_rows : Addr
  a__law_k09_keeps : Addr
  a__law_k09_one : Addr
  a__law_k09_great : Addr
  a_law : Addr
  C_BadSize : Addr
  C_BadStock : Addr
  C_PairError : Addr
  C_Stock : Addr
  C_TooMany : Addr
  c_LIMITS : Addr
structure Fd where
  d_TooMany___init__ : FuncData
  d_BadSize___init__ : FuncData
  d_BadStock___init__ : FuncData
  d_check : FuncData
  d_check_within : FuncData
  d_check_sizes : FuncData
  d_check_stock_top : FuncData
  d_turns_of : FuncData
  d_skyline_of : FuncData
  d_with_pieces : FuncData
  d_without : FuncData
  d_Stock___init__ : FuncData
  d_Stock_top : FuncData
  d_Stock_bores : FuncData
  d_Stock_pins : FuncData
  d_Stock_skyline : FuncData
  d_Stock_turns : FuncData
  d_Stock_spare : FuncData
  d_Stock_come : FuncData
  d_Stock_give : FuncData
  d_Stock_can_give : FuncData
  d_exact_size : FuncData
  d_bore_behind : FuncData
  d_step : FuncData
  d__law_purse : FuncData
  d__law_draw : FuncData
  d__law_matches : FuncData
  d__law_below : FuncData
  d__law_above : FuncData
  d__law_sky : FuncData
  d__law_turns : FuncData
  d__law_bent : FuncData
  d__law_within : FuncData
  d__law_drawn_stock : FuncData
  d__law_exact_many : FuncData
  d__law_couples : FuncData
  d__law_told : FuncData
  d__law_due : FuncData
  d__law_eased : FuncData
  d__law_summed : FuncData
  d__law_without : FuncData
  d__law_step : FuncData
  d__law_k09_pieces : FuncData
  d__law_k09_rows : FuncData
  d__law_k09_keeps : FuncData
  d__law_k09_one : FuncData
  d__law_k09_great : FuncData
  d_law : FuncData
structure Txt (K : PySem.W.Frag) (mg : Str → Option Value) (w : World) (ad : Ad) (fd : Fd) : Prop where
  F_TooMany___init__ : Fun K "__init__" "TooMany.__init__" s_TooMany___init__ ad.a_TooMany___init__ fd.d_TooMany___init__
  F_BadSize___init__ : Fun K "__init__" "BadSize.__init__" s_BadSize___init__ ad.a_BadSize___init__ fd.d_BadSize___init__
  F_BadStock___init__ : Fun K "__init__" "BadStock.__init__" s_BadStock___init__ ad.a_BadStock___init__ fd.d_BadStock___init__
  F_check : Fun K "check" "check" s_check ad.a_check fd.d_check
  F_check_within : Fun K "check_within" "check_within" s_check_within ad.a_check_within fd.d_check_within
  F_check_sizes : Fun K "check_sizes" "check_sizes" s_check_sizes ad.a_check_sizes fd.d_check_sizes
  F_check_stock_top : Fun K "check_stock_top" "check_stock_top" s_check_stock_top ad.a_check_stock_top fd.d_check_stock_top
  F_turns_of : Fun K "turns_of" "turns_of" s_turns_of ad.a_turns_of fd.d_turns_of
  F_skyline_of : Fun K "skyline_of" "skyline_of" s_skyline_of ad.a_skyline_of fd.d_skyline_of
  F_with_pieces : Fun K "with_pieces" "with_pieces" s_with_pieces ad.a_with_pieces fd.d_with_pieces
  F_without : Fun K "without" "without" s_without ad.a_without fd.d_without
  F_Stock___init__ : Fun K "__init__" "Stock.__init__" s_Stock___init__ ad.a_Stock___init__ fd.d_Stock___init__
  F_Stock_top : Fun K "top" "Stock.top" s_Stock_top ad.a_Stock_top fd.d_Stock_top
  F_Stock_bores : Fun K "bores" "Stock.bores" s_Stock_bores ad.a_Stock_bores fd.d_Stock_bores
  F_Stock_pins : Fun K "pins" "Stock.pins" s_Stock_pins ad.a_Stock_pins fd.d_Stock_pins
  F_Stock_skyline : Fun K "skyline" "Stock.skyline" s_Stock_skyline ad.a_Stock_skyline fd.d_Stock_skyline
  F_Stock_turns : Fun K "turns" "Stock.turns" s_Stock_turns ad.a_Stock_turns fd.d_Stock_turns
  F_Stock_spare : Fun K "spare" "Stock.spare" s_Stock_spare ad.a_Stock_spare fd.d_Stock_spare
  F_Stock_come : Fun K "come" "Stock.come" s_Stock_come ad.a_Stock_come fd.d_Stock_come
  F_Stock_give : Fun K "give" "Stock.give" s_Stock_give ad.a_Stock_give fd.d_Stock_give
  F_Stock_can_give : Fun K "can_give" "Stock.can_give" s_Stock_can_give ad.a_Stock_can_give fd.d_Stock_can_give
  F_exact_size : Fun K "exact_size" "exact_size" s_exact_size ad.a_exact_size fd.d_exact_size
  F_bore_behind : Fun K "bore_behind" "bore_behind" s_bore_behind ad.a_bore_behind fd.d_bore_behind
  F_step : Fun K "step" "step" s_step ad.a_step fd.d_step
  F__law_purse : Fun K "_law_purse" "_law_purse" s__law_purse ad.a__law_purse fd.d__law_purse
  F__law_draw : Fun K "_law_draw" "_law_draw" s__law_draw ad.a__law_draw fd.d__law_draw
  F__law_matches : Fun K "_law_matches" "_law_matches" s__law_matches ad.a__law_matches fd.d__law_matches
  F__law_below : Fun K "_law_below" "_law_below" s__law_below ad.a__law_below fd.d__law_below
  F__law_above : Fun K "_law_above" "_law_above" s__law_above ad.a__law_above fd.d__law_above
  F__law_sky : Fun K "_law_sky" "_law_sky" s__law_sky ad.a__law_sky fd.d__law_sky
  F__law_turns : Fun K "_law_turns" "_law_turns" s__law_turns ad.a__law_turns fd.d__law_turns
  F__law_bent : Fun K "_law_bent" "_law_bent" s__law_bent ad.a__law_bent fd.d__law_bent
  F__law_within : Fun K "_law_within" "_law_within" s__law_within ad.a__law_within fd.d__law_within
  F__law_drawn_stock : Fun K "_law_drawn_stock" "_law_drawn_stock" s__law_drawn_stock ad.a__law_drawn_stock fd.d__law_drawn_stock
  F__law_exact_many : Fun K "_law_exact_many" "_law_exact_many" s__law_exact_many ad.a__law_exact_many fd.d__law_exact_many
  F__law_couples : Fun K "_law_couples" "_law_couples" s__law_couples ad.a__law_couples fd.d__law_couples
  F__law_told : Fun K "_law_told" "_law_told" s__law_told ad.a__law_told fd.d__law_told
  F__law_due : Fun K "_law_due" "_law_due" s__law_due ad.a__law_due fd.d__law_due
  F__law_eased : Fun K "_law_eased" "_law_eased" s__law_eased ad.a__law_eased fd.d__law_eased
  F__law_summed : Fun K "_law_summed" "_law_summed" s__law_summed ad.a__law_summed fd.d__law_summed
  F__law_without : Fun K "_law_without" "_law_without" s__law_without ad.a__law_without fd.d__law_without
  F__law_step : Fun K "_law_step" "_law_step" s__law_step ad.a__law_step fd.d__law_step
  F__law_k09_pieces : Fun K "_law_k09_pieces" "_law_k09_pieces" s__law_k09_pieces ad.a__law_k09_pieces fd.d__law_k09_pieces
  F__law_k09_rows : Fun K "_law_k09_rows" "_law_k09_rows" s__law_k09_rows ad.a__law_k09_rows fd.d__law_k09_rows
  F__law_k09_keeps : Fun K "_law_k09_keeps" "_law_k09_keeps" s__law_k09_keeps ad.a__law_k09_keeps fd.d__law_k09_keeps
  F__law_k09_one : Fun K "_law_k09_one" "_law_k09_one" s__law_k09_one ad.a__law_k09_one fd.d__law_k09_one
  F__law_k09_great : Fun K "_law_k09_great" "_law_k09_great" s__law_k09_great ad.a__law_k09_great fd.d__law_k09_great
  F_law : Fun K "law" "law" s_law ad.a_law fd.d_law
  g_check : mg "check" = some (.ref ad.a_check)
  g_check_within : mg "check_within" = some (.ref ad.a_check_within)
  g_check_sizes : mg "check_sizes" = some (.ref ad.a_check_sizes)
  g_check_stock_top : mg "check_stock_top" = some (.ref ad.a_check_stock_top)
  g_turns_of : mg "turns_of" = some (.ref ad.a_turns_of)
  g_skyline_of : mg "skyline_of" = some (.ref ad.a_skyline_of)
  g_with_pieces : mg "with_pieces" = some (.ref ad.a_with_pieces)
  g_without : mg "without" = some (.ref ad.a_without)
  g_exact_size : mg "exact_size" = some (.ref ad.a_exact_size)
  g_bore_behind : mg "bore_behind" = some (.ref ad.a_bore_behind)
  g_step : mg "step" = some (.ref ad.a_step)
  g__law_purse : mg "_law_purse" = some (.ref ad.a__law_purse)
  g__law_draw : mg "_law_draw" = some (.ref ad.a__law_draw)
  g__law_matches : mg "_law_matches" = some (.ref ad.a__law_matches)
  g__law_below : mg "_law_below" = some (.ref ad.a__law_below)
  g__law_above : mg "_law_above" = some (.ref ad.a__law_above)
  g__law_sky : mg "_law_sky" = some (.ref ad.a__law_sky)
  g__law_turns : mg "_law_turns" = some (.ref ad.a__law_turns)
  g__law_bent : mg "_law_bent" = some (.ref ad.a__law_bent)
  g__law_within : mg "_law_within" = some (.ref ad.a__law_within)
  g__law_drawn_stock : mg "_law_drawn_stock" = some (.ref ad.a__law_drawn_stock)
  g__law_exact_many : mg "_law_exact_many" = some (.ref ad.a__law_exact_many)
  g__law_couples : mg "_law_couples" = some (.ref ad.a__law_couples)
  g__law_told : mg "_law_told" = some (.ref ad.a__law_told)
  g__law_due : mg "_law_due" = some (.ref ad.a__law_due)
  g__law_eased : mg "_law_eased" = some (.ref ad.a__law_eased)
  g__law_summed : mg "_law_summed" = some (.ref ad.a__law_summed)
  g__law_without : mg "_law_without" = some (.ref ad.a__law_without)
  g__law_step : mg "_law_step" = some (.ref ad.a__law_step)
  g__law_k09_pieces : mg "_law_k09_pieces" = some (.ref ad.a__law_k09_pieces)
  g__law_k09_rows : mg "_law_k09_rows" = some (.ref ad.a__law_k09_rows)
  g__law_k09_keeps : mg "_law_k09_keeps" = some (.ref ad.a__law_k09_keeps)
  g__law_k09_one : mg "_law_k09_one" = some (.ref ad.a__law_k09_one)
  g__law_k09_great : mg "_law_k09_great" = some (.ref ad.a__law_k09_great)
  g_law : mg "law" = some (.ref ad.a_law)
  m_TooMany___init__ : Meth K ad.C_TooMany "__init__" ad.a_TooMany___init__
  m_BadSize___init__ : Meth K ad.C_BadSize "__init__" ad.a_BadSize___init__
  m_BadStock___init__ : Meth K ad.C_BadStock "__init__" ad.a_BadStock___init__
  m_Stock___init__ : Meth K ad.C_Stock "__init__" ad.a_Stock___init__
  m_Stock_top : Meth K ad.C_Stock "top" ad.a_Stock_top
  m_Stock_bores : Meth K ad.C_Stock "bores" ad.a_Stock_bores
  m_Stock_pins : Meth K ad.C_Stock "pins" ad.a_Stock_pins
  m_Stock_skyline : Meth K ad.C_Stock "skyline" ad.a_Stock_skyline
  m_Stock_turns : Meth K ad.C_Stock "turns" ad.a_Stock_turns
  m_Stock_spare : Meth K ad.C_Stock "spare" ad.a_Stock_spare
  m_Stock_come : Meth K ad.C_Stock "come" ad.a_Stock_come
  m_Stock_give : Meth K ad.C_Stock "give" ad.a_Stock_give
  m_Stock_can_give : Meth K ad.C_Stock "can_give" ad.a_Stock_can_give
  g_BadSize : mg "BadSize" = some (.ref ad.C_BadSize)
  g_BadStock : mg "BadStock" = some (.ref ad.C_BadStock)
  g_PairError : mg "PairError" = some (.ref ad.C_PairError)
  g_Stock : mg "Stock" = some (.ref ad.C_Stock)
  g_TooMany : mg "TooMany" = some (.ref ad.C_TooMany)
  n_ValueError : mg "ValueError" = none
  n_abs : mg "abs" = none
  n_all : mg "all" = none
  n_bool : mg "bool" = none
  n_dict : mg "dict" = none
  n_int : mg "int" = none
  n_isinstance : mg "isinstance" = none
  n_len : mg "len" = none
  n_list : mg "list" = none
  n_max : mg "max" = none
  n_min : mg "min" = none
  n_range : mg "range" = none
  n_set : mg "set" = none
  n_sorted : mg "sorted" = none
  n_str : mg "str" = none
  n_sum : mg "sum" = none
  n_tuple : mg "tuple" = none
  g_LIMITS : mg "LIMITS" = some (.ref ad.c_LIMITS)
  g_PIECES : ∃ t, mg "PIECES" = some (.int 60 t)
  x_top : L2.KDct K w ad.c_LIMITS "top" (.int 60)
  x_pieces : L2.KDct K w ad.c_LIMITS "pieces" (.int 200)
  be_PairError : DL.BaseE K ad.C_PairError
  oe_TooMany : L2.OexC K ad.C_TooMany
  ec_TooMany : L2.ExcC K ad.C_TooMany
  no_TooMany_what : PySem.W.findIn K (.ref ad.C_TooMany) "what" = some none
  ki_TooMany_TooMany : PySem.W.kitOne K (.ref ad.C_TooMany) (.ref ad.C_TooMany) = some true
  ki_TooMany_BadSize : PySem.W.kitOne K (.ref ad.C_TooMany) (.ref ad.C_BadSize) = some false
  ki_TooMany_BadStock : PySem.W.kitOne K (.ref ad.C_TooMany) (.ref ad.C_BadStock) = some false
  ki_TooMany_V : PySem.W.kitOne K (.ref ad.C_TooMany) (.type "ValueError") = some true
  ex_TooMany : PySem.W.exmOne K (.ref ad.C_TooMany) (.ref ad.C_PairError) = some true
  oe_BadSize : L2.OexC K ad.C_BadSize
  ec_BadSize : L2.ExcC K ad.C_BadSize
  no_BadSize_what : PySem.W.findIn K (.ref ad.C_BadSize) "what" = some none
  no_BadSize_place : PySem.W.findIn K (.ref ad.C_BadSize) "place" = some none
  ki_BadSize_TooMany : PySem.W.kitOne K (.ref ad.C_BadSize) (.ref ad.C_TooMany) = some false
  ki_BadSize_BadSize : PySem.W.kitOne K (.ref ad.C_BadSize) (.ref ad.C_BadSize) = some true
  ki_BadSize_BadStock : PySem.W.kitOne K (.ref ad.C_BadSize) (.ref ad.C_BadStock) = some false
  ki_BadSize_V : PySem.W.kitOne K (.ref ad.C_BadSize) (.type "ValueError") = some true
  ex_BadSize : PySem.W.exmOne K (.ref ad.C_BadSize) (.ref ad.C_PairError) = some true
  oe_BadStock : L2.OexC K ad.C_BadStock
  ec_BadStock : L2.ExcC K ad.C_BadStock
  no_BadStock_what : PySem.W.findIn K (.ref ad.C_BadStock) "what" = some none
  ki_BadStock_TooMany : PySem.W.kitOne K (.ref ad.C_BadStock) (.ref ad.C_TooMany) = some false
  ki_BadStock_BadSize : PySem.W.kitOne K (.ref ad.C_BadStock) (.ref ad.C_BadSize) = some false
  ki_BadStock_BadStock : PySem.W.kitOne K (.ref ad.C_BadStock) (.ref ad.C_BadStock) = some true
  ki_BadStock_V : PySem.W.kitOne K (.ref ad.C_BadStock) (.type "ValueError") = some true
  ex_BadStock : PySem.W.exmOne K (.ref ad.C_BadStock) (.ref ad.C_PairError) = some true
  cl_Stock : L2.Cls K ad.C_Stock
  mk_Stock : L2.Mk K ad.C_Stock ad.a_Stock___init__
  na_top_number : L2.NoAttr K ad.C_Stock "top_number"
  na_bore_list : L2.NoAttr K ad.C_Stock "bore_list"
  na_pin_list : L2.NoAttr K ad.C_Stock "pin_list"
end K09
set_option Elab.async false
set_option linter.all false
set_option maxRecDepth 100000
set_option maxHeartbeats 4000000
namespace K09
open PySem L2 DL
/-! ### the steps: one rule an expression, by its reading's head -/
local macro_rules | `(tactic| wtm_at "ev") => `(tactic| first
  | exact ev_var rfl
  | exact ev_int
  | exact ev_non
  | exact ev_bl
  | exact ev_str
  | exact ea_nil
  | with_reducible apply ea_cons
  | ((with_reducible refine' ev_isi ?a ?b ?c); (case' a => repeat' wtm_at "ev"); (case' b => exact rfl); (case' c => exact rfl))
  | with_reducible apply ev_cb
  | with_reducible apply ev_op
  | with_reducible apply ev_un
  | with_reducible apply et_test
  | with_reducible apply et_B
  | with_reducible apply et_not
  | with_reducible apply ev_isN
  | with_reducible apply ev_notN
  | with_reducible apply ev_notV
  | with_reducible apply et_and
  | with_reducible apply et_or
  | with_reducible apply ev_andV
  | with_reducible apply ev_orV
  | with_reducible apply ev_ifI
  | with_reducible apply ev_ifD
  | ((with_reducible refine' ev_dnotin ?a ?b ?c ?d); (case' a => repeat' wtm_at "ev"); (case' b => repeat' wtm_at "ev"); (case' c => exact rfl); (case' d => first | exact .inl rfl | exact .inr ⟨_, rfl, rfl⟩))
  | ((with_reducible refine' ev_din ?a ?b ?c ?d); (case' a => repeat' wtm_at "ev"); (case' b => repeat' wtm_at "ev"); (case' c => exact rfl); (case' d => first | exact .inl rfl | exact .inr ⟨_, rfl, rfl⟩))
  | with_reducible apply ev_lcLAI
  | with_reducible apply ev_lcLII
  | with_reducible apply ev_lcLA
  | with_reducible apply ev_lcLI
  | with_reducible apply ev_lcRAI
  | with_reducible apply ev_lcRI
  | with_reducible apply ev_lcRA
  | with_reducible apply ev_lcR
  | exact et_yes
  | with_reducible intro _
  | exact od_int
  | exact od_bool
  | exact od_eqI
  | exact od_neI
  | exact od_eqS
  | exact od_neS
  | exact ud_neg
  | exact cd_abs
  | exact cd_max2
  | exact cd_min2
  | exact cd_int
  | exact cd_intB
  | exact cd_lenScr
  | exact cd_lenT
  | exact cd_lenI (.inl rfl)
  | exact cd_lenI (.inr ⟨_, rfl, rfl⟩)
  | exact cd_len (.inl rfl)
  | exact cd_len (.inr ⟨_, rfl, rfl⟩)
  | exact cd_lenD (.inl rfl)
  | exact cd_lenD (.inr ⟨_, rfl, rfl⟩)
  | exact cd_sum (.inl rfl)
  | exact cd_sorted (.inl rfl)
  | exact cd_list (.inl rfl)
  | exact cd_listT
  | exact eo_none
  | with_reducible apply eo_some
  | with_reducible apply ev_sliceScr
  | refine' ev_sliceI ?_ ?_ ?_ (.inl rfl)
  | with_reducible apply od_intC
  | with_reducible apply od_ixScr
  | refine' od_ixI (.inl rfl) ?_ ?_
  | refine' od_ixI (.inr ⟨_, rfl, rfl⟩) ?_ ?_
  | exact od_ixT rfl
  | exact od_inI (.inl rfl)
  | exact od_notinI (.inl rfl)
  | refine' od_cat (.inl rfl) (.inl rfl) ?_
  | ((with_reducible refine' ev_tup ?h ?r ?l); (case' h => repeat' wtm_at "ev"); (case' r => exact rfl); (case' l => exact Nat.le_of_ble_eq_true rfl))
  | (refine (show CMul _ _ from .inl ⟨?_, ?_⟩) <;> decide)
  | (refine (show CMul _ _ from .inr ⟨?_, ?_⟩) <;> decide)
  | (refine (show (_ : Prop) from ?_); assumption)
  | (refine (show CDiv _ _ from ⟨?_, ?_⟩) <;> omega)
  | (refine (show CPow _ _ from ⟨?_, ?_, ?_⟩) <;> decide)
  | omega
  | (simp only [Pz.len]; done)
  | (simp only [Pz.len, List.length_map, List.length_append, List.length_range, List.length_set, List.length_reverse]; omega))
/-! a statement's step: its values are reckoned, what is left is the way on -/
local macro_rules | `(tactic| wtm_at "st") => `(tactic| first
  | (refine' q_set (by assumption) ?h ?k; (case' h => repeat' wtm_at "ev"); (case' k => (intro _ _ _ _ _; try dsimp only)))
  | (refine' s_set (by assumption) ?h ?k; (case' h => repeat' wtm_at "ev"); (case' k => (intro _ _ _ _ _; try dsimp only)))
  | (refine' q_augS (by assumption) ?h1 ?h2 ?h3 ?r1 ?r2 ?s1 ?s2 ?k; (case' h1 => repeat' wtm_at "ev"); (case' h2 => repeat' wtm_at "ev"); (case' h3 => repeat' wtm_at "ev"); (case' r1 => exact rfl); (case' r2 => exact rfl); (case' s1 => try wtm_at "ev"); (case' s2 => try wtm_at "ev"); (case' k => (intro _ _ _ _ _; try dsimp only)))
  | (refine' s_augS (by assumption) ?h1 ?h2 ?h3 ?r1 ?r2 ?s1 ?s2 ?k; (case' h1 => repeat' wtm_at "ev"); (case' h2 => repeat' wtm_at "ev"); (case' h3 => repeat' wtm_at "ev"); (case' r1 => exact rfl); (case' r2 => exact rfl); (case' s1 => try wtm_at "ev"); (case' s2 => try wtm_at "ev"); (case' k => (intro _ _ _ _ _; try dsimp only)))
  | (refine' q_setLI (by assumption) ?h ?h1 ?h2 ?r1 ?s1 ?s2 ?k; (case' h => repeat' wtm_at "ev"); (case' h1 => repeat' wtm_at "ev"); (case' h2 => repeat' wtm_at "ev"); (case' r1 => exact rfl); (case' s1 => try wtm_at "ev"); (case' s2 => try wtm_at "ev"); (case' k => (intro _ _ _ _ _; try dsimp only)))
  | (refine' q_setL (by assumption) ?h ?h1 ?h2 ?r1 ?s1 ?s2 ?k; (case' h => repeat' wtm_at "ev"); (case' h1 => repeat' wtm_at "ev"); (case' h2 => repeat' wtm_at "ev"); (case' r1 => exact rfl); (case' s1 => try wtm_at "ev"); (case' s2 => try wtm_at "ev"); (case' k => (intro _ _ _ _ _; try dsimp only)))
  | (refine' s_setLI (by assumption) ?h ?h1 ?h2 ?r1 ?s1 ?s2 ?k; (case' h => repeat' wtm_at "ev"); (case' h1 => repeat' wtm_at "ev"); (case' h2 => repeat' wtm_at "ev"); (case' r1 => exact rfl); (case' s1 => try wtm_at "ev"); (case' s2 => try wtm_at "ev"); (case' k => (intro _ _ _ _ _; try dsimp only)))
  | (refine' s_setL (by assumption) ?h ?h1 ?h2 ?r1 ?s1 ?s2 ?k; (case' h => repeat' wtm_at "ev"); (case' h1 => repeat' wtm_at "ev"); (case' h2 => repeat' wtm_at "ev"); (case' r1 => exact rfl); (case' s1 => try wtm_at "ev"); (case' s2 => try wtm_at "ev"); (case' k => (intro _ _ _ _ _; try dsimp only)))
  | (refine' q_appI (by assumption) ?h1 ?h ?r1 ?r2 ?s ?k; (case' h1 => repeat' wtm_at "ev"); (case' h => repeat' wtm_at "ev"); (case' r1 => exact rfl); (case' r2 => exact rfl); (case' s => try wtm_at "ev"); (case' k => (intro _ _ _ _ _; try dsimp only)))
  | (refine' q_app (by assumption) ?h1 ?h ?r1 ?r2 ?s ?k; (case' h1 => repeat' wtm_at "ev"); (case' h => repeat' wtm_at "ev"); (case' r1 => exact rfl); (case' r2 => exact rfl); (case' s => try wtm_at "ev"); (case' k => (intro _ _ _ _ _; try dsimp only)))
  | (refine' s_appI (by assumption) ?h1 ?h ?r1 ?r2 ?s ?k; (case' h1 => repeat' wtm_at "ev"); (case' h => repeat' wtm_at "ev"); (case' r1 => exact rfl); (case' r2 => exact rfl); (case' s => try wtm_at "ev"); (case' k => (intro _ _ _ _ _; try dsimp only)))
  | (refine' s_app (by assumption) ?h1 ?h ?r1 ?r2 ?s ?k; (case' h1 => repeat' wtm_at "ev"); (case' h => repeat' wtm_at "ev"); (case' r1 => exact rfl); (case' r2 => exact rfl); (case' s => try wtm_at "ev"); (case' k => (intro _ _ _ _ _; try dsimp only)))
  | (refine' q_dput (by assumption) ?h ?h1 ?h2 ?r1 ?r2 ?s ?k; (case' h => repeat' wtm_at "ev"); (case' h1 => repeat' wtm_at "ev"); (case' h2 => repeat' wtm_at "ev"); (case' r1 => exact rfl); (case' r2 => exact rfl); (case' s => try wtm_at "ev"); (case' k => (intro _ _ _ _ _; try dsimp only)))
  | (refine' s_dput (by assumption) ?h ?h1 ?h2 ?r1 ?r2 ?s ?k; (case' h => repeat' wtm_at "ev"); (case' h1 => repeat' wtm_at "ev"); (case' h2 => repeat' wtm_at "ev"); (case' r1 => exact rfl); (case' r2 => exact rfl); (case' s => try wtm_at "ev"); (case' k => (intro _ _ _ _ _; try dsimp only)))
  | (refine' q_tup2 (by assumption) ?h ?k; (case' h => repeat' wtm_at "ev"); (case' k => (intro _ _ _ _ _; try dsimp only)))
  | (refine' q_drop (by assumption) ?h ?k; (case' h => repeat' wtm_at "ev"); (case' k => (intro _ _ _ _ _; try dsimp only)))
  | (refine' q_if (by assumption) ?h ?k1 ?k2; (case' h => repeat' wtm_at "ev"))
  | (refine' s_if (by assumption) ?h ?k1 ?k2; (case' h => repeat' wtm_at "ev"))
  | (refine' s_ret (by assumption) ?h ?k; (case' h => repeat' wtm_at "ev"); (case' k => (intro _ _ _ _ _ _ _; try dsimp only)))
  | (refine' q_ret (by assumption) ?h ?k; (case' h => repeat' wtm_at "ev"); (case' k => (intro _ _ _ _ _ _ _; try dsimp only)))
  | ((with_reducible refine' s_next (by assumption) ?k); (case' k => (intro _ _ _ _ _; try dsimp only)))
  | (with_reducible refine q_next ?_))

abbrev sp_TooMany___init__ (K : PySem.W.Frag) : Sp := spI1 K "what"
theorem ok_TooMany___init__ {P : Program} {w : World} {K : PySem.W.Frag} {mg : Str → Option Value} {base : Heap} {ad : Ad} {fd : Fd} (T : Txt K mg w ad fd) : FnOk P w K mg base CX0 1 ad.a_TooMany___init__ fd.d_TooMany___init__ ["self", "what"] (sp_TooMany___init__ K) := by
  refine L2.Fun.ok (k := 0) T.F_TooMany___init__ sc_TooMany___init__ (fun vs H Q E h => ?_) (fun cdv A outer s H vs Q E hr h => ?_)
  · obtain ⟨_, _, _, rfl, _⟩ := h; rfl
  · have hu := hu_of hr
    exact ⟨_, (pss_cons (ps_expr (pe_baseInit rfl T.g_PairError T.be_PairError (pa_cons (pv 0) (pa_cons (pe_str) pa_nil))))
  (pss_one (ps_ost (pv 0) (pv 1)))), init1_reads rfl h⟩
abbrev sp_BadStock___init__ (K : PySem.W.Frag) : Sp := spI1 K "what"
theorem ok_BadStock___init__ {P : Program} {w : World} {K : PySem.W.Frag} {mg : Str → Option Value} {base : Heap} {ad : Ad} {fd : Fd} (T : Txt K mg w ad fd) : FnOk P w K mg base CX0 1 ad.a_BadStock___init__ fd.d_BadStock___init__ ["self", "what"] (sp_BadStock___init__ K) := by
  refine L2.Fun.ok (k := 0) T.F_BadStock___init__ sc_BadStock___init__ (fun vs H Q E h => ?_) (fun cdv A outer s H vs Q E hr h => ?_)
  · obtain ⟨_, _, _, rfl, _⟩ := h; rfl
  · have hu := hu_of hr
    exact ⟨_, (pss_cons (ps_expr (pe_baseInit rfl T.g_PairError T.be_PairError (pa_cons (pv 0) (pa_cons (pe_str) pa_nil))))
  (pss_one (ps_ost (pv 0) (pv 1)))), init1_reads rfl h⟩
abbrev sp_BadSize___init__ (K : PySem.W.Frag) : Sp := spI2 K "what" "place"
theorem ok_BadSize___init__ {P : Program} {w : World} {K : PySem.W.Frag} {mg : Str → Option Value} {base : Heap} {ad : Ad} {fd : Fd} (T : Txt K mg w ad fd) : FnOk P w K mg base CX0 1 ad.a_BadSize___init__ fd.d_BadSize___init__ ["self", "what", "place"] (sp_BadSize___init__ K) := by
  refine L2.Fun.ok (k := 0) T.F_BadSize___init__ sc_BadSize___init__ (fun vs H Q E h => ?_) (fun cdv A outer s H vs Q E hr h => ?_)
  · obtain ⟨_, _, _, _, rfl, _⟩ := h; rfl
  · have hu := hu_of hr
    exact ⟨_, (pss_cons (ps_expr (pe_baseInit rfl T.g_PairError T.be_PairError (pa_cons (pv 0) (pa_cons (pe_str) pa_nil))))
  (pss_cons (ps_ost (pv 0) (pv 1))
  (pss_one (ps_ost (pv 0) (pv 2))))), init2_reads rfl h⟩
/-- the bounds that are asked -/
def Bnd (s : Str) (b : Int) : Prop := (s = "top" ∧ b = 60) ∨ (s = "pieces" ∧ b = 200)
def ph_check (ad : Ad) : List MC → List Rv → List MC → Out → Prop := fun M rs M' o => ∃ s b m, M = [] ∧ rs = [rstr s, rint m] ∧ Bnd s b ∧ M' = [] ∧ o = if b < m then .exc ad.C_TooMany [("what", .str s)] else .ret .non
abbrev sp_check (K : PySem.W.Frag) (ad : Ad) : Sp := FSp K (ph_check ad)
theorem ok_check {P : Program} {w : World} {K : PySem.W.Frag} {mg : Str → Option Value} {base : Heap} {ad : Ad} {fd : Fd} (T : Txt K mg w ad fd) : FnOk P w K mg base (L2N.CX P w) 3 ad.a_check fd.d_check ["what", "number"] (sp_check K ad) := by
  have G_TooMany___init__ := ok_TooMany___init__ (P := P) (base := base) T
  have b_TooMany___init__ := T.F_TooMany___init__.binds (ps := ["self", "what"]) fun _ _ _ _ _ _ us hl => match us, hl with | [_, _], _ => rfl
  refine DL.Fun.okN (k := 2) T.F_check sc_check (fun vs H Q E h => ?_) (fun cdv A outer s H vs Q E hr h => ?_)
  · exact h.len fun M rs M' o ⟨_, _, _, _, e, _⟩ => by rw [e]; rfl
  · have hu := hu_of hr
    refine ⟨_, (pss_one (ps_if (pt_cmpR op_gt (pv 1) (pe_ix (ix_kdictK (K := K) (w := w) rfl rfl) (pe_glob (v := .ref ad.c_LIMITS) rfl T.g_LIMITS rfl) (pv 0) (fun _ _ => rfl)) (nomark _)) (pss_one (L2N.ps_raise rfl (L2N.takes_of rfl rfl rfl rfl) (pmk_ini T.oe_TooMany T.m_TooMany___init__.at_ (beq_iff_eq.mp T.m_TooMany___init__.fn) G_TooMany___init__ (hr.mono (by first | decide | omega)) b_TooMany___init__ rfl T.g_TooMany (pa_cons (pv 0) pa_nil)))) pss_nil)), ?_⟩
    try dsimp only [cxOf, Cx.nox, Cx.wish, List.map]
    refine h.reading fun F As M rs M' o hΦ hL B S hB hA post => ?_
    obtain ⟨s, b, m, rfl, rfl, hb, rfl, rfl⟩ := hΦ
    have kd : L2.KDct K w ad.c_LIMITS s (.int b) := by
      rcases hb with ⟨rfl, rfl⟩ | ⟨rfl, rfl⟩
      · exact T.x_top
      · exact T.x_pieces
    refine' s_if S (b := decide (b < m)) (et_test (ev_op (ev_var (r := rint m) rfl) (ev_kdict (ev_var (r := rstr s) rfl) kd) od_bool)) ?k1 ?k2
    case k1 =>
      intro hc F As σ H S
      rw [if_pos (of_decide_eq_true hc)] at post
      exact x_raise1 S (ea_cons (ev_var rfl) ea_nil) T.oe_TooMany T.no_TooMany_what fun dd ws F' As' H' S' n p => post dd ws F' As' _ _ _ H' S' rfl n p
    case k2 =>
      intro hc F As σ H S
      rw [if_neg (of_decide_eq_false hc)] at post
      exact post _ _ _ _ _ _ _ S rfl .non
/-- the first place whose size is out of range -/
def badAt (t : Int) (ns : List Int) : Option Nat := ns.findIdx? fun z => decide (z < 0 ∨ t < z)
theorem badAt_none {t : Int} {ns : List Int} (h : ∀ (i : Nat) (z : Int), ns[i]? = some z → 0 ≤ z ∧ z ≤ t) : badAt t ns = none := by
  unfold badAt
  rw [List.findIdx?_eq_none_iff]
  intro z hz
  obtain ⟨i, hi⟩ := List.getElem?_of_mem hz
  have := h i z hi
  exact decide_eq_false (by omega)
theorem badAt_some {t : Int} {ns : List Int} {i : Nat} {z : Int} (hi : ns[i]? = some z) (hz : z < 0 ∨ t < z) (h : ∀ (j : Nat) (y : Int), j < i → ns[j]? = some y → 0 ≤ y ∧ y ≤ t) : badAt t ns = some i := by
  unfold badAt
  obtain ⟨hl, e⟩ := List.getElem?_eq_some_iff.mp hi
  rw [List.findIdx?_eq_some_iff_getElem]
  refine ⟨hl, by rw [e]; exact decide_eq_true hz, fun j hj => ?_⟩
  have := h j ns[j] hj (List.getElem?_eq_getElem (by omega))
  simp only [decide_eq_true_eq]
  omega
/-- what check_sizes raises -/
def szR (ad : Ad) (t : Int) (bs ps : List Int) : Option (Addr × List (Str × D)) :=
  if t < 1 then some (ad.C_BadSize, [("place", .int 0), ("what", .str "top")]) else match badAt t bs with
    | some i => some (ad.C_BadSize, [("place", .int ((i : Int) + 1)), ("what", .str "bore")])
    | none => match badAt t ps with
      | some i => some (ad.C_BadSize, [("place", .int ((i : Int) + 1)), ("what", .str "pin")])
      | none => none
def outO : Option (Addr × List (Str × D)) → Out
  | none => .ret .non
  | some (C, fs) => .exc C fs
def ph_csz (ad : Ad) : List MC → List Rv → List MC → Out → Prop := fun M rs M' o => ∃ t x y bs ps, rs = [rint t, x, y] ∧ IsLst M x (bs.map D.int) ∧ IsLst M y (ps.map D.int) ∧ bs.length ≤ 1000000 ∧ ps.length ≤ 1000000 ∧ M' = M ∧ o = outO (szR ad t bs ps)
theorem gI_get {ns : List Int} {i : Nat} (h : i < ns.length) : ns[i]? = some (gI ns (i : Int)) := by
  rw [List.getElem?_eq_getElem h]
  show some _ = some (ns.getD i 0)
  rw [List.getD_eq_getElem?_getD, List.getElem?_eq_getElem h]; rfl
/-! ### counts -/
def cntV (bs : List Int) (k : Int) : Int := ((bs.filter fun z => decide (z = k)).length : Int)
def belV (bs : List Int) (e : Int) : Int := ((bs.filter fun z => decide (z < e)).length : Int)
def abvV (ps : List Int) (e : Int) : Int := ((ps.filter fun z => decide (e ≤ z)).length : Int)
theorem fl_cons (q : Int → Bool) (x : Int) (xs : List Int) : (((x :: xs).filter q).length : Int) = (if q x = true then 1 else 0) + ((xs.filter q).length : Int) := by
  by_cases h : q x = true
  · rw [List.filter_cons_of_pos h, if_pos h, List.length_cons]; omega
  · rw [List.filter_cons_of_neg h, if_neg h]; omega
theorem bel_step (e : Int) : ∀ bs : List Int, belV bs (e + 1) = belV bs e + cntV bs e
  | [] => rfl
  | x :: bs => by
    have ih := bel_step e bs
    unfold belV cntV at *
    rw [fl_cons, fl_cons, fl_cons, ih]
    simp only [decide_eq_true_eq]
    (repeat' split) <;> omega
theorem abv_step (e : Int) : ∀ bs : List Int, abvV bs (e + 1) = abvV bs e - cntV bs e
  | [] => rfl
  | x :: bs => by
    have ih := abv_step e bs
    unfold abvV cntV at *
    rw [fl_cons, fl_cons, fl_cons, ih]
    simp only [decide_eq_true_eq]
    (repeat' split) <;> omega
theorem bel_zero : ∀ {bs : List Int}, (∀ z ∈ bs, 0 ≤ z) → belV bs 0 = 0
  | [], _ => rfl
  | x :: bs, h => by
    have ih := bel_zero fun z hz => h z (List.mem_cons_of_mem x hz)
    have := h x (List.mem_cons_self ..)
    unfold belV at *
    rw [fl_cons, ih, if_neg (by simp only [decide_eq_true_eq]; omega)]; rfl
theorem abv_zero : ∀ {bs : List Int}, (∀ z ∈ bs, 0 ≤ z) → abvV bs 0 = bs.length
  | [], _ => rfl
  | x :: bs, h => by
    have ih := abv_zero fun z hz => h z (List.mem_cons_of_mem x hz)
    have := h x (List.mem_cons_self ..)
    unfold abvV at *
    rw [fl_cons, ih, if_pos (by simp only [decide_eq_true_eq]; omega), List.length_cons]; omega
theorem cnt_snoc (bs : List Int) (x k : Int) : cntV (bs ++ [x]) k = cntV bs k + if x = k then 1 else 0 := by
  unfold cntV
  rw [List.filter_append, List.length_append, Int.natCast_add]
  have := fl_cons (fun z => decide (z = k)) x []
  simp only [decide_eq_true_eq, List.filter_nil, List.length_nil] at this
  rw [this, show ((0 : Nat) : Int) = 0 from rfl, Int.add_zero]
def Sz (t : Int) (bs : List Int) : Prop := ∀ z ∈ bs, 0 ≤ z ∧ z ≤ t
def ph_counts : List MC → List Rv → List MC → Out → Prop := fun M rs M' o => ∃ t x bs, rs = [rint t, x] ∧ IsLst M x (bs.map D.int) ∧ (0 ≤ t ∧ t ≤ 1000000) ∧ Sz t bs ∧ M' = M ∧ o = .ret (.lst ((arr (t + 1).toNat fun k => cntV bs k).map D.int))
theorem putD_ne {f g : Str} {d e : D} {r : List (Str × D)} (h : ¬ g = f) : putD f d ((g, e) :: r) = (g, e) :: putD f d r := if_neg h
theorem putD_nil {f : Str} {d : D} : putD f d [] = [(f, d)] := rfl
theorem sortI_eq {ms ns : List Int} (h : ms.Perm ns) : sortI ms = sortI ns := sortI_unique ((sortI_perm ms).trans h) (sortI_pair ms)
theorem flen_perm {q : Int → Bool} {ms ns : List Int} (h : ms.Perm ns) : (ms.filter q).length = (ns.filter q).length := (h.filter q).length_eq
theorem bel_perm {ms ns : List Int} (h : ms.Perm ns) (e : Int) : belV ms e = belV ns e := by unfold belV; rw [flen_perm h]
theorem abv_perm {ms ns : List Int} (h : ms.Perm ns) (e : Int) : abvV ms e = abvV ns e := by unfold abvV; rw [flen_perm h]
theorem cnt_perm {ms ns : List Int} (h : ms.Perm ns) (e : Int) : cntV ms e = cntV ns e := by unfold cntV; rw [flen_perm h]
def twoL (a b : List Int) : D := .tup [.lst (a.map D.int), .lst (b.map D.int)]
theorem bel_top {t : Int} : ∀ {bs : List Int}, (∀ z ∈ bs, z ≤ t) → belV bs (t + 1) = bs.length
  | [], _ => rfl
  | x :: bs, h => by
    have ih := bel_top fun z hz => h z (List.mem_cons_of_mem x hz)
    have := h x (List.mem_cons_self ..)
    unfold belV at *
    rw [fl_cons, ih, if_pos (by simp only [decide_eq_true_eq]; omega), List.length_cons]; omega
theorem abv_top {t : Int} : ∀ {bs : List Int}, (∀ z ∈ bs, z ≤ t) → abvV bs (t + 1) = 0
  | [], _ => rfl
  | x :: bs, h => by
    have ih := abv_top fun z hz => h z (List.mem_cons_of_mem x hz)
    have := h x (List.mem_cons_self ..)
    unfold abvV at *
    rw [fl_cons, ih, if_neg (by simp only [decide_eq_true_eq]; omega)]; rfl
theorem bel_nn {bs : List Int} {e : Int} : 0 ≤ belV bs e := Int.natCast_nonneg _
theorem abv_nn {bs : List Int} {e : Int} : 0 ≤ abvV bs e := Int.natCast_nonneg _
def comV (bs ps : List Int) (k : Int) : Int := if cntV ps k < cntV bs k then cntV ps k else cntV bs k
theorem cnt_nn {bs : List Int} {e : Int} : 0 ≤ cntV bs e := Int.natCast_nonneg _
theorem com_le {bs ps : List Int} {k : Int} : 0 ≤ comV bs ps k ∧ comV bs ps k ≤ cntV bs k ∧ comV bs ps k ≤ cntV ps k := by
  have := cnt_nn (bs := bs) (e := k)
  have := cnt_nn (bs := ps) (e := k)
  unfold comV
  split <;> omega
theorem rep_one (n : Nat) (d : D) : (List.replicate n [d]).flatten = List.replicate n d := by
  induction n with
  | zero => rfl
  | succ n ih => rw [List.replicate_succ, List.flatten_cons, ih, List.replicate_succ]; rfl
theorem rints_cat (xs ys : List Int) : (Rv.dat (.lst (xs.map D.int ++ ys.map D.int))) = rints (xs ++ ys) := by
  show _ = Rv.dat (.lst ((xs ++ ys).map D.int))
  rw [List.map_append]
theorem gI_mem {ns : List Int} {i : Int} (h0 : 0 ≤ i) (h1 : i < ns.length) : gI ns i ∈ ns := by
  have h : i.toNat < ns.length := by omega
  show ns.getD i.toNat 0 ∈ ns
  rw [List.getD_eq_getElem?_getD, List.getElem?_eq_getElem h]
  exact List.getElem_mem h
end K09
set_option Elab.async false
set_option linter.all false
set_option maxRecDepth 100000
set_option maxHeartbeats 4000000
namespace K09
open PySem L2 DL
/-! ### the purse and its draws -/
structure Pz where
  a : Int
  b : Int
  c : Int
def Pz.ns (p : Pz) : List Int := [p.a, p.b, p.c]
theorem Pz.len (p : Pz) : (Pz.ns p).length = 3 := rfl
abbrev pmc (p : Pz) : MC := .lst ((Pz.ns p).map D.int)
def draw (p : Pz) (m : Int) : Int × Pz :=
  if 0 < p.a then (p.a % m, ⟨p.a / m, p.b, p.c⟩)
  else ((((p.b * 48271 + (p.c + 1) * 69621) % 2147483647 * 16807 + (p.c + 1) * 7919) % 2147483629) / 8 % m, ⟨p.a, (p.b * 48271 + (p.c + 1) * 69621) % 2147483647, p.c + 1⟩)
theorem draw_pos {p : Pz} {m : Int} (h : 0 < p.a) : draw p m = (p.a % m, ⟨p.a / m, p.b, p.c⟩) := if_pos h
theorem draw_neg {p : Pz} {m : Int} (h : ¬ 0 < p.a) : draw p m = ((((p.b * 48271 + (p.c + 1) * 69621) % 2147483647 * 16807 + (p.c + 1) * 7919) % 2147483629) / 8 % m, ⟨p.a, (p.b * 48271 + (p.c + 1) * 69621) % 2147483647, p.c + 1⟩) := if_neg h
theorem draw_rng {p : Pz} {m : Int} (h : 0 < m) : 0 ≤ (draw p m).1 ∧ (draw p m).1 < m := by
  unfold draw
  split
  · exact ⟨Int.emod_nonneg _ (by omega), Int.emod_lt_of_pos _ h⟩
  · exact ⟨Int.emod_nonneg _ (by omega), Int.emod_lt_of_pos _ h⟩
/-- the purse behind i draws, and the i-th draw -/
def pAft (p : Pz) (m : Int) : Nat → Pz
  | 0 => p
  | i + 1 => (draw (pAft p m i) m).2
def dAt (p : Pz) (m : Int) (i : Nat) : Int := (draw (pAft p m i) m).1
theorem dAt_rng {p : Pz} {m : Int} (h : 0 < m) (i : Nat) : 0 ≤ dAt p m i ∧ dAt p m i < m := draw_rng h
def cellOf (ns : List Int) (k : Int) : Int := if k < ns.length then gI ns k else 31 * (cutD ns none (some 4)).sum
def sizeOf' (c : Int) : Int := 2 * (if c < 0 then -c else c) + (if c < 0 then 1 else 0)
def purseOf (ns : List Int) (k : Int) : Pz :=
  ⟨if 1000000000000000000 ≤ sizeOf' (cellOf ns k) then sizeOf' (cellOf ns k) else 0, (sizeOf' (cellOf ns k) + k * 104729 + 12345) % 2147483629, k⟩
def ph_draw : List MC → List Rv → List MC → Out → Prop := fun M rs M' o => ∃ p m, M = [pmc p] ∧ rs = [.cel 0, rint m] ∧ 0 < m ∧ m < 1073741824 ∧ M' = [pmc (draw p m).2] ∧ o = .ret (.int (draw p m).1)
def ph_purse : List MC → List Rv → List MC → Out → Prop := fun M rs M' o => ∃ ns k, M = [] ∧ rs = [.dat (.scr ns), rint k] ∧ 0 ≤ k ∧ ns.length ≤ 63 ∧ M' = [] ∧ o = .new (pmc (purseOf ns k))
abbrev sp__law_draw (K : PySem.W.Frag) : Sp := FSp K ph_draw
abbrev sp__law_purse (K : PySem.W.Frag) : Sp := FSp K ph_purse
/-- a draw, from the cell k -/
theorem ev_draw {K : PySem.W.Frag} {t : TA} {M M1 : List MC} {E : List (Option Rv)} {k : Nat} {m : Int} {p : Pz} (ha : EvA K t M E M1 [.cel k, rint m]) (hk : M1[k]? = some (pmc p)) (h0 : 0 < m) (h1 : m < 1073741824) :
    EvD K (tCall (FSp K ph_draw) [] E0 t) M E (M1.set k (pmc (draw p m).2)) (rint (draw p m).1) :=
  ev_call1 ha (by intro z; cases z) hk (by intro z; cases z) ⟨p, m, rfl, rfl, h0, h1, rfl, rfl⟩
/-- a draw, the purse the first cell -/
theorem ev_drawC {K : PySem.W.Frag} {t : TA} {Ms : List MC} {E : List (Option Rv)} {m : Int} {p : Pz} (ha : EvA K t (pmc p :: Ms) E (pmc p :: Ms) [.cel 0, rint m]) (h0 : 0 < m) (h1 : m < 1073741824) :
    EvD K (tCall (FSp K ph_draw) [] E0 t) (pmc p :: Ms) E (pmc (draw p m).2 :: Ms) (rint (draw p m).1) := ev_draw ha rfl h0 h1
/-- the i-th draw of a row -/
theorem ev_drawS {K : PySem.W.Frag} {t : TA} {Ms : List MC} {E : List (Option Rv)} {m : Int} {p : Pz} {i : Nat} (ha : EvA K t (pmc (pAft p m i) :: Ms) E (pmc (pAft p m i) :: Ms) [.cel 0, rint m]) (h0 : 0 < m) (h1 : m < 1073741824) :
    EvD K (tCall (FSp K ph_draw) [] E0 t) (pmc (pAft p m i) :: Ms) E (pmc (pAft p m (i + 1)) :: Ms) (rint (dAt p m i)) := ev_draw ha rfl h0 h1

/-! ### the steps: one rule an expression, by its reading's head -/
local macro_rules | `(tactic| wtm_at "ev") => `(tactic| first
  | exact ev_var rfl
  | exact ev_int
  | exact ev_non
  | exact ev_bl
  | exact ev_str
  | exact ea_nil
  | with_reducible apply ea_cons
  | ((with_reducible refine' ev_isi ?a ?b ?c); (case' a => repeat' wtm_at "ev"); (case' b => exact rfl); (case' c => exact rfl))
  | with_reducible apply ev_cb
  | with_reducible apply ev_op
  | with_reducible apply ev_un
  | with_reducible apply et_test
  | with_reducible apply et_B
  | with_reducible apply et_not
  | with_reducible apply ev_isN
  | with_reducible apply ev_notN
  | with_reducible apply ev_notV
  | with_reducible apply et_and
  | with_reducible apply et_or
  | with_reducible apply ev_andV
  | with_reducible apply ev_orV
  | with_reducible apply ev_ifI
  | with_reducible apply ev_ifD
  | ((with_reducible refine' ev_dnotin ?a ?b ?c ?d); (case' a => repeat' wtm_at "ev"); (case' b => repeat' wtm_at "ev"); (case' c => exact rfl); (case' d => first | exact .inl rfl | exact .inr ⟨_, rfl, rfl⟩))
  | ((with_reducible refine' ev_din ?a ?b ?c ?d); (case' a => repeat' wtm_at "ev"); (case' b => repeat' wtm_at "ev"); (case' c => exact rfl); (case' d => first | exact .inl rfl | exact .inr ⟨_, rfl, rfl⟩))
  | with_reducible apply ev_lcLAI
  | with_reducible apply ev_lcLII
  | with_reducible apply ev_lcLA
  | with_reducible apply ev_lcLI
  | with_reducible apply ev_lcRAI
  | with_reducible apply ev_lcRI
  | with_reducible apply ev_lcRA
  | with_reducible apply ev_lcR
  | exact et_yes
  | with_reducible intro _
  | exact od_int
  | exact od_bool
  | exact od_eqI
  | exact od_neI
  | exact od_eqS
  | exact od_neS
  | exact ud_neg
  | exact cd_abs
  | exact cd_max2
  | exact cd_min2
  | exact cd_int
  | exact cd_intB
  | exact cd_lenScr
  | exact cd_lenT
  | exact cd_lenI (.inl rfl)
  | exact cd_lenI (.inr ⟨_, rfl, rfl⟩)
  | exact cd_len (.inl rfl)
  | exact cd_len (.inr ⟨_, rfl, rfl⟩)
  | exact cd_lenD (.inl rfl)
  | exact cd_lenD (.inr ⟨_, rfl, rfl⟩)
  | exact cd_sum (.inl rfl)
  | exact cd_sorted (.inl rfl)
  | exact cd_list (.inl rfl)
  | exact cd_listT
  | exact eo_none
  | with_reducible apply eo_some
  | with_reducible apply ev_sliceScr
  | refine' ev_sliceI ?_ ?_ ?_ (.inl rfl)
  | with_reducible apply od_intC
  | with_reducible apply od_ixScr
  | refine' od_ixI (.inl rfl) ?_ ?_
  | refine' od_ixI (.inr ⟨_, rfl, rfl⟩) ?_ ?_
  | exact od_ixT rfl
  | exact od_inI (.inl rfl)
  | exact od_notinI (.inl rfl)
  | refine' od_cat (.inl rfl) (.inl rfl) ?_
  | ((with_reducible refine' ev_tup ?h ?r ?l); (case' h => repeat' wtm_at "ev"); (case' r => exact rfl); (case' l => exact Nat.le_of_ble_eq_true rfl))
  | (refine (show CMul _ _ from .inl ⟨?_, ?_⟩) <;> decide)
  | (refine (show CMul _ _ from .inr ⟨?_, ?_⟩) <;> decide)
  | (refine (show (_ : Prop) from ?_); assumption)
  | (refine (show CDiv _ _ from ⟨?_, ?_⟩) <;> omega)
  | (refine (show CPow _ _ from ⟨?_, ?_, ?_⟩) <;> decide)
  | omega
  | (simp only [Pz.len]; done)
  | (simp only [Pz.len, List.length_map, List.length_append, List.length_range, List.length_set, List.length_reverse]; omega))
/-! a statement's step: its values are reckoned, what is left is the way on -/
local macro_rules | `(tactic| wtm_at "st") => `(tactic| first
  | (refine' q_set (by assumption) ?h ?k; (case' h => repeat' wtm_at "ev"); (case' k => (intro _ _ _ _ _; try dsimp only)))
  | (refine' s_set (by assumption) ?h ?k; (case' h => repeat' wtm_at "ev"); (case' k => (intro _ _ _ _ _; try dsimp only)))
  | (refine' q_augS (by assumption) ?h1 ?h2 ?h3 ?r1 ?r2 ?s1 ?s2 ?k; (case' h1 => repeat' wtm_at "ev"); (case' h2 => repeat' wtm_at "ev"); (case' h3 => repeat' wtm_at "ev"); (case' r1 => exact rfl); (case' r2 => exact rfl); (case' s1 => try wtm_at "ev"); (case' s2 => try wtm_at "ev"); (case' k => (intro _ _ _ _ _; try dsimp only)))
  | (refine' s_augS (by assumption) ?h1 ?h2 ?h3 ?r1 ?r2 ?s1 ?s2 ?k; (case' h1 => repeat' wtm_at "ev"); (case' h2 => repeat' wtm_at "ev"); (case' h3 => repeat' wtm_at "ev"); (case' r1 => exact rfl); (case' r2 => exact rfl); (case' s1 => try wtm_at "ev"); (case' s2 => try wtm_at "ev"); (case' k => (intro _ _ _ _ _; try dsimp only)))
  | (refine' q_setLI (by assumption) ?h ?h1 ?h2 ?r1 ?s1 ?s2 ?k; (case' h => repeat' wtm_at "ev"); (case' h1 => repeat' wtm_at "ev"); (case' h2 => repeat' wtm_at "ev"); (case' r1 => exact rfl); (case' s1 => try wtm_at "ev"); (case' s2 => try wtm_at "ev"); (case' k => (intro _ _ _ _ _; try dsimp only)))
  | (refine' q_setL (by assumption) ?h ?h1 ?h2 ?r1 ?s1 ?s2 ?k; (case' h => repeat' wtm_at "ev"); (case' h1 => repeat' wtm_at "ev"); (case' h2 => repeat' wtm_at "ev"); (case' r1 => exact rfl); (case' s1 => try wtm_at "ev"); (case' s2 => try wtm_at "ev"); (case' k => (intro _ _ _ _ _; try dsimp only)))
  | (refine' s_setLI (by assumption) ?h ?h1 ?h2 ?r1 ?s1 ?s2 ?k; (case' h => repeat' wtm_at "ev"); (case' h1 => repeat' wtm_at "ev"); (case' h2 => repeat' wtm_at "ev"); (case' r1 => exact rfl); (case' s1 => try wtm_at "ev"); (case' s2 => try wtm_at "ev"); (case' k => (intro _ _ _ _ _; try dsimp only)))
  | (refine' s_setL (by assumption) ?h ?h1 ?h2 ?r1 ?s1 ?s2 ?k; (case' h => repeat' wtm_at "ev"); (case' h1 => repeat' wtm_at "ev"); (case' h2 => repeat' wtm_at "ev"); (case' r1 => exact rfl); (case' s1 => try wtm_at "ev"); (case' s2 => try wtm_at "ev"); (case' k => (intro _ _ _ _ _; try dsimp only)))
  | (refine' q_appI (by assumption) ?h1 ?h ?r1 ?r2 ?s ?k; (case' h1 => repeat' wtm_at "ev"); (case' h => repeat' wtm_at "ev"); (case' r1 => exact rfl); (case' r2 => exact rfl); (case' s => try wtm_at "ev"); (case' k => (intro _ _ _ _ _; try dsimp only)))
  | (refine' q_app (by assumption) ?h1 ?h ?r1 ?r2 ?s ?k; (case' h1 => repeat' wtm_at "ev"); (case' h => repeat' wtm_at "ev"); (case' r1 => exact rfl); (case' r2 => exact rfl); (case' s => try wtm_at "ev"); (case' k => (intro _ _ _ _ _; try dsimp only)))
  | (refine' s_appI (by assumption) ?h1 ?h ?r1 ?r2 ?s ?k; (case' h1 => repeat' wtm_at "ev"); (case' h => repeat' wtm_at "ev"); (case' r1 => exact rfl); (case' r2 => exact rfl); (case' s => try wtm_at "ev"); (case' k => (intro _ _ _ _ _; try dsimp only)))
  | (refine' s_app (by assumption) ?h1 ?h ?r1 ?r2 ?s ?k; (case' h1 => repeat' wtm_at "ev"); (case' h => repeat' wtm_at "ev"); (case' r1 => exact rfl); (case' r2 => exact rfl); (case' s => try wtm_at "ev"); (case' k => (intro _ _ _ _ _; try dsimp only)))
  | (refine' q_dput (by assumption) ?h ?h1 ?h2 ?r1 ?r2 ?s ?k; (case' h => repeat' wtm_at "ev"); (case' h1 => repeat' wtm_at "ev"); (case' h2 => repeat' wtm_at "ev"); (case' r1 => exact rfl); (case' r2 => exact rfl); (case' s => try wtm_at "ev"); (case' k => (intro _ _ _ _ _; try dsimp only)))
  | (refine' s_dput (by assumption) ?h ?h1 ?h2 ?r1 ?r2 ?s ?k; (case' h => repeat' wtm_at "ev"); (case' h1 => repeat' wtm_at "ev"); (case' h2 => repeat' wtm_at "ev"); (case' r1 => exact rfl); (case' r2 => exact rfl); (case' s => try wtm_at "ev"); (case' k => (intro _ _ _ _ _; try dsimp only)))
  | (refine' q_tup2 (by assumption) ?h ?k; (case' h => repeat' wtm_at "ev"); (case' k => (intro _ _ _ _ _; try dsimp only)))
  | (refine' q_drop (by assumption) ?h ?k; (case' h => repeat' wtm_at "ev"); (case' k => (intro _ _ _ _ _; try dsimp only)))
  | (refine' q_if (by assumption) ?h ?k1 ?k2; (case' h => repeat' wtm_at "ev"))
  | (refine' s_if (by assumption) ?h ?k1 ?k2; (case' h => repeat' wtm_at "ev"))
  | (refine' s_ret (by assumption) ?h ?k; (case' h => repeat' wtm_at "ev"); (case' k => (intro _ _ _ _ _ _ _; try dsimp only)))
  | (refine' q_ret (by assumption) ?h ?k; (case' h => repeat' wtm_at "ev"); (case' k => (intro _ _ _ _ _ _ _; try dsimp only)))
  | ((with_reducible refine' s_next (by assumption) ?k); (case' k => (intro _ _ _ _ _; try dsimp only)))
  | (with_reducible refine q_next ?_))

theorem ok__law_draw {P : Program} {w : World} {K : PySem.W.Frag} {mg : Str → Option Value} {base : Heap} {ad : Ad} {fd : Fd} (T : Txt K mg w ad fd) : FnOk P w K mg base CX0 1 ad.a__law_draw fd.d__law_draw ["purse", "many"] (sp__law_draw K) := by
  refine L2.Fun.ok (k := 0) T.F__law_draw sc__law_draw (fun vs H Q E h => ?_) (fun cdv A outer s H vs Q E hr h => ?_)
  · exact h.len fun M rs M' o ⟨p, m, _, e, _⟩ => by rw [e]; rfl
  · refine ⟨_, (pss_cons (ps_if (pt_cmpR op_gt (pe_ix (ix_listK (K := K) rfl) (pv 0) (pe_int) (fun _ _ => rfl)) (pe_int) (nomark _)) (pss_cons (ps_set (i := 2) sc__law_draw.nd rfl (by first | exact Or.inl rfl | exact Or.inr rfl) (pe_op op_mod (pe_callTy call_int1 (by rfl) T.n_int (by decide +kernel) (pa_cons (pe_ix (ix_listK (K := K) rfl) (pv 0) (pe_int) (fun _ _ => rfl)) pa_nil)) (pv 1)))
  (pss_cons (ps_asg (pe_op op_fdiv (pe_ix (ix_listK (K := K) rfl) (pv 0) (pe_int) (fun _ _ => rfl)) (pv 1)) (pg_sub (pv 0) (pe_int) set_list))
  (pss_one (ps_ret (pv 2))))) pss_nil)
  (pss_cons (ps_augS (pv 0) (pe_int) (pget_listK (K := K) rfl) (pe_int) ip_add set_list)
  (pss_cons (ps_asg (pe_op op_mod (pe_callTy call_int1 (by rfl) T.n_int (by decide +kernel) (pa_cons (pe_op op_add (pe_op op_mul (pe_ix (ix_listK (K := K) rfl) (pv 0) (pe_int) (fun _ _ => rfl)) (pe_int)) (pe_op op_mul (pe_ix (ix_listK (K := K) rfl) (pv 0) (pe_int) (fun _ _ => rfl)) (pe_int))) pa_nil)) (pe_int)) (pg_sub (pv 0) (pe_int) set_list))
  (pss_one (ps_ret (pe_op op_mod (pe_op op_fdiv (pe_op op_mod (pe_callTy call_int1 (by rfl) T.n_int (by decide +kernel) (pa_cons (pe_op op_add (pe_op op_mul (pe_ix (ix_listK (K := K) rfl) (pv 0) (pe_int) (fun _ _ => rfl)) (pe_int)) (pe_op op_mul (pe_ix (ix_listK (K := K) rfl) (pv 0) (pe_int) (fun _ _ => rfl)) (pe_int))) pa_nil)) (pe_int)) (pe_int)) (pv 1))))))), ?_⟩
    try dsimp only [cxOf, Cx.nox, Cx.wish, List.map]
    refine h.reading fun F As M rs M' o hΦ hL B S hB hA post => ?_
    obtain ⟨p, m, rfl, rfl, h1, h2, rfl, rfl⟩ := hΦ
    dsimp only at post
    wtm_at "st"
    · intro hc F As σ H S
      have hc : 0 < p.a := of_decide_eq_true hc
      rw [draw_pos hc] at post
      wtm_at "st"
      wtm_at "st"
      wtm_at "st"
      exact post _ _ _ _ _ _ _ (by assumption) rfl (by assumption)
    · intro hc F As σ H S
      have hc : ¬ 0 < p.a := of_decide_eq_false hc
      rw [draw_neg hc] at post
      wtm_at "st"
      wtm_at "st"
      wtm_at "st"
      wtm_at "st"
      exact post _ _ _ _ _ _ _ (by assumption) rfl (by assumption)
theorem ok__law_purse {P : Program} {w : World} {K : PySem.W.Frag} {mg : Str → Option Value} {base : Heap} {ad : Ad} {fd : Fd} (T : Txt K mg w ad fd) : FnOk P w K mg base CX0 1 ad.a__law_purse fd.d__law_purse ["script", "at"] (sp__law_purse K) := by
  refine L2.Fun.ok (k := 0) T.F__law_purse sc__law_purse (fun vs H Q E h => ?_) (fun cdv A outer s H vs Q E hr h => ?_)
  · exact h.len fun M rs M' o ⟨ns, k, _, e, _⟩ => by rw [e]; rfl
  · refine ⟨_, (pss_cons (ps_set (i := 2) sc__law_purse.nd rfl (by first | exact Or.inl rfl | exact Or.inr rfl) (pe_ifExp (pt_cmpR op_lt (pv 1) (pe_callB (call_lenK (K := K) rfl) (by rfl) T.n_len (by decide +kernel) (pa_cons (pv 0) pa_nil)) (nomark _)) (pe_callTy call_int1 (by rfl) T.n_int (by decide +kernel) (pa_cons (pe_ix (ix_listK (K := K) rfl) (pv 0) (pv 1) (fun _ _ => rfl)) pa_nil)) (pe_op op_mul (pe_int) (pe_callB (cr_sumK (K := K) rfl rfl) (by rfl) T.n_sum (by decide +kernel) (pa_cons (pe_lc rfl sc__law_purse.nd (pi_listK (K := K) rfl (pe_slice (sl_listK (K := K) rfl) (pv 0) po_none (po_some (pe_int)))) (blkOk_by (own := [("one", 3)]) (N := N__law_purse) (sc := defScope s__law_purse) (by decide +kernel)) (fun _ _ _ _ _ => (pg_name (i := 3) sc__law_purse.nd rfl (by first | exact Or.inl rfl | exact Or.inr rfl))) (fun _ _ _ _ _ => pts_nil) (fun _ _ _ _ _ => (pe_callTy call_int1 (by rfl) T.n_int (by decide +kernel) (pa_cons (pv 3) pa_nil)))) pa_nil)))))
  (pss_cons (ps_set (i := 4) sc__law_purse.nd rfl (by first | exact Or.inl rfl | exact Or.inr rfl) (pe_op op_add (pe_op op_mul (pe_int) (pe_callB call_abs (by rfl) T.n_abs (by decide +kernel) (pa_cons (pv 2) pa_nil))) (pe_ifExp (pt_cmpR op_lt (pv 2) (pe_int) (nomark _)) (pe_int) (pe_int))))
  (pss_one (ps_ret (pe_lst (pa_cons (pe_ifExp (pt_cmpR op_ge (pv 4) (pe_op op_pow (pe_int) (pe_int)) (nomark _)) (pv 4) (pe_int)) (pa_cons (pe_op op_mod (pe_callTy call_int1 (by rfl) T.n_int (by decide +kernel) (pa_cons (pe_op op_add (pe_op op_add (pv 4) (pe_op op_mul (pv 1) (pe_int))) (pe_int)) pa_nil)) (pe_int)) (pa_cons (pv 1) pa_nil)))))))), ?_⟩
    try dsimp only [cxOf, Cx.nox, Cx.wish, List.map]
    refine h.reading fun F As M rs M' o hΦ hL B S hB hA post => ?_
    obtain ⟨ns, k, rfl, rfl, h1, h2, rfl, rfl⟩ := hΦ
    dsimp only at post
    refine q_set S (r := rint (cellOf ns k)) (M' := []) ?_ ?_
    · refine ev_if (b := decide (k < ns.length)) (M1 := []) ?_ ?_ ?_
      · repeat' wtm_at "ev"
      · intro hc
        have hc : k < ns.length := of_decide_eq_true hc
        rw [show cellOf ns k = gI ns k from if_pos hc]
        repeat' wtm_at "ev"
      · intro hc
        have hc : ¬ k < ns.length := of_decide_eq_false hc
        rw [show cellOf ns k = 31 * (cutD ns none (some 4)).sum from if_neg hc]
        refine' ev_is ?h ?e
        case' h =>
          repeat' wtm_at "ev"
        · have := cutD_len ns none (some 4)
          omega
        case e => rw [List.map_id']
    · intro F As σ H S
      wtm_at "st"
      refine' s_ret (by assumption) (ev_lstM ?h ?r ?l) ?k
      case' h => repeat' wtm_at "ev"
      case' r => exact rfl
      case' l => exact Nat.le_of_ble_eq_true rfl
      intro v F As σ H S rv
      refine post _ _ _ _ _ _ _ _ S rfl (Nat.le_refl _) ?_ (by intro z; cases z) rv
      show some (MC.lst _) = some (MC.lst _)
      simp only [Pz.ns, purseOf, sizeOf', decide_eq_true_eq, List.map_cons, List.map_nil]
      rfl
def ph_match : Nat → List MC → List Rv → List MC → Out → Prop
  | 0, _, _, _, _ => False
  | n + 1, M, rs, M', o => ∃ d, M = [] ∧ rs = [.dat d, .dat d] ∧ Plain (n + 1) d ∧ M' = [] ∧ o = .ret (.bl true)
abbrev sp__law_matches (n : Nat) (K : PySem.W.Frag) : Sp := FSp K (ph_match n)
theorem no__law_matches {M : List MC} {rs : List Rv} {M' : List MC} {o : Out} (h : ph_match 0 M rs M' o) : False := h
theorem FSp.any {K : PySem.W.Frag} {Φ : List MC → List Rv → List MC → Out → Prop} {vs : List V} {H : Hp} {Q : VK} {X : XK} (h : FSp K Φ vs H Q X) : Φ h.choose_spec.choose_spec.choose h.choose_spec.choose_spec.choose_spec.choose h.choose_spec.choose_spec.choose_spec.choose_spec.choose h.choose_spec.choose_spec.choose_spec.choose_spec.choose_spec.choose := h.choose_spec.choose_spec.choose_spec.choose_spec.choose_spec.choose_spec.2.2.1
theorem ok__law_matches {P : Program} {w : World} {K : PySem.W.Frag} {mg : Str → Option Value} {base : Heap} {ad : Ad} {fd : Fd} (T : Txt K mg w ad fd) : ∀ n : Nat, FnOk P w K mg base CX0 (n + 1) ad.a__law_matches fd.d__law_matches ["answer", "due"] (sp__law_matches n K)
  | 0 => L2.Fun.ok (k := 0) T.F__law_matches sc__law_matches (fun vs H Q E h => h.len fun M rs M' o z => (no__law_matches z).elim) (fun cdv A outer s H vs Q E hr h => (no__law_matches (FSp.any h)).elim)
  | n + 1 => by
    have G__law_matches := ok__law_matches (P := P) (base := base) T n
    have b__law_matches := T.F__law_matches.binds (ps := ["answer", "due"]) fun _ _ _ _ _ _ us hl => match us, hl with | [_, _], _ => rfl
    refine L2.Fun.ok (k := n + 1) T.F__law_matches sc__law_matches (fun vs H Q E h => ?_) (fun cdv A outer s H vs Q E hr h => ?_)
    · exact h.len fun M rs M' o ⟨d, _, e, _⟩ => by rw [e]; rfl
    · have hu := hu_of hr
      refine ⟨_, (pss_cons (ps_if (PW.pt (pw_or (pt_cmp (pc_isN (pv 1))) (pw_or1 (pt_cmp (pc_isN (pv 0)))))) (pss_one (ps_ret ((pe_and (pe_cmp (pc_isN (pv 1))) (pe_one (pe_cmp (pc_isN (pv 0)))))))) pss_nil)
  (pss_cons (ps_if (PW.pt (pw_or (pt_val (pe_callB (call_isiK' (K := K) rfl) (by rfl) T.n_isinstance (by decide +kernel) (pa_cons (pv 1) (pa_cons (pe_bltn (v := .ty "bool") rfl T.n_bool (by decide +kernel) rfl) pa_nil)))) (pw_or1 (pt_val (pe_callB (call_isiK' (K := K) rfl) (by rfl) T.n_isinstance (by decide +kernel) (pa_cons (pv 0) (pa_cons (pe_bltn (v := .ty "bool") rfl T.n_bool (by decide +kernel) rfl) pa_nil))))))) (pss_one (ps_ret ((pe_and (pe_callB (call_isiK' (K := K) rfl) (by rfl) T.n_isinstance (by decide +kernel) (pa_cons (pv 1) (pa_cons (pe_bltn (v := .ty "bool") rfl T.n_bool (by decide +kernel) rfl) pa_nil))) (pe_and (pe_callB (call_isiK' (K := K) rfl) (by rfl) T.n_isinstance (by decide +kernel) (pa_cons (pv 0) (pa_cons (pe_bltn (v := .ty "bool") rfl T.n_bool (by decide +kernel) rfl) pa_nil))) (pe_one (pe_cmpR (op_eqDK (K := K) hr.units rfl) (pv 0) (pv 1) (nomark _)))))))) pss_nil)
  (pss_cons (ps_if (pt_val (pe_callB (call_isiK' (K := K) rfl) (by rfl) T.n_isinstance (by decide +kernel) (pa_cons (pv 1) (pa_cons (pe_bltn (v := .ty "int") rfl T.n_int (by decide +kernel) rfl) pa_nil)))) (pss_one (ps_ret ((pe_and (pe_callB (call_isiK' (K := K) rfl) (by rfl) T.n_isinstance (by decide +kernel) (pa_cons (pv 0) (pa_cons (pe_bltn (v := .ty "int") rfl T.n_int (by decide +kernel) rfl) pa_nil))) (pe_one (pe_cmpR (op_eqDK (K := K) hr.units rfl) (pv 0) (pv 1) (nomark _))))))) pss_nil)
  (pss_cons (ps_if (pt_val (pe_callB (call_isiK' (K := K) rfl) (by rfl) T.n_isinstance (by decide +kernel) (pa_cons (pv 1) (pa_cons (pe_bltn (v := .ty "str") rfl T.n_str (by decide +kernel) rfl) pa_nil)))) (pss_one (ps_ret ((pe_and (pe_callB (call_isiK' (K := K) rfl) (by rfl) T.n_isinstance (by decide +kernel) (pa_cons (pv 0) (pa_cons (pe_bltn (v := .ty "str") rfl T.n_str (by decide +kernel) rfl) pa_nil))) (pe_one (pe_cmpR (op_eqDK (K := K) hr.units rfl) (pv 0) (pv 1) (nomark _))))))) pss_nil)
  (pss_cons (ps_if (PW.pt (pw_and (pt_val (pe_callB (call_isiK' (K := K) rfl) (by rfl) T.n_isinstance (by decide +kernel) (pa_cons (pv 1) (pa_cons (pe_bltn (v := .ty "tuple") rfl T.n_tuple (by decide +kernel) rfl) pa_nil)))) (pw_and1 (pt_not (pt_val (pe_callB (call_isiK' (K := K) rfl) (by rfl) T.n_isinstance (by decide +kernel) (pa_cons (pv 0) (pa_cons (pe_bltn (v := .ty "tuple") rfl T.n_tuple (by decide +kernel) rfl) pa_nil)))))))) (pss_one (ps_ret (pe_bl))) pss_nil)
  (pss_cons (ps_if (PW.pt (pw_and (pt_val (pe_callB (call_isiK' (K := K) rfl) (by rfl) T.n_isinstance (by decide +kernel) (pa_cons (pv 1) (pa_cons (pe_bltn (v := .ty "list") rfl T.n_list (by decide +kernel) rfl) pa_nil)))) (pw_and1 (pt_not (pt_val (pe_callB (call_isiK' (K := K) rfl) (by rfl) T.n_isinstance (by decide +kernel) (pa_cons (pv 0) (pa_cons (pe_bltn (v := .ty "list") rfl T.n_list (by decide +kernel) rfl) pa_nil)))))))) (pss_one (ps_ret (pe_bl))) pss_nil)
  (pss_cons (ps_if (pt_cmpR op_ne (pe_callB (call_lenK (K := K) rfl) (by rfl) T.n_len (by decide +kernel) (pa_cons (pv 0) pa_nil)) (pe_callB (call_lenK (K := K) rfl) (by rfl) T.n_len (by decide +kernel) (pa_cons (pv 1) pa_nil)) (nomark _)) (pss_one (ps_ret (pe_bl))) pss_nil)
  (pss_cons (ps_for PassesOwn.never rfl (pi_range1 (by rfl) T.n_range (pa_cons (pe_callB (call_lenK (K := K) rfl) (by rfl) T.n_len (by decide +kernel) (pa_cons (pv 1) pa_nil)) pa_nil)) (pg_name (i := 2) sc__law_matches.nd rfl (by first | exact Or.inl rfl | exact Or.inr rfl))
  (pss_one (ps_if (pt_not (pt_val (pe_call G__law_matches (hr.mono (by first | decide | omega)) rfl T.g__law_matches T.F__law_matches.kp b__law_matches .nil pass0 (pa_cons (pe_ix (ix_seqK (K := K) rfl) (pv 0) (pv 2) (fun _ _ => rfl)) (pa_cons (pe_ix (ix_seqK (K := K) rfl) (pv 1) (pv 2) (fun _ _ => rfl)) pa_nil))))) (pss_one (ps_ret (pe_bl))) pss_nil)))
  (pss_one (ps_ret (pe_bl))))))))))), ?_⟩
      try dsimp only [cxOf, Cx.nox, Cx.wish, List.map]
      refine h.reading fun F As M rs M' o hΦ hL B S hB hA post => ?_
      obtain ⟨d, rfl, rfl, hp, rfl, rfl⟩ := hΦ
      dsimp only at post
      cases d with
      | non =>
        wtm_at "st"
        case k2 => intro hc; cases hc
        case k1 =>
        intro hc F As σ H S
        try dsimp only
        wtm_at "st"
        exact post _ _ _ _ _ _ _ (by assumption) rfl (by assumption)
      | bl b =>
        wtm_at "st"
        case k1 => intro hc; cases hc
        case k2 =>
        intro hc F As σ H S
        try dsimp only
        wtm_at "st"
        wtm_at "st"
        case k2 => intro hc; cases hc
        case k1 =>
        intro hc F As σ H S
        try dsimp only
        refine s_ret S (r := rbl (true && (true && true))) (M' := []) ?_ fun v F As σ H S r => post _ _ _ _ _ _ _ S rfl r
        repeat' first | exact od_eqS1 (.bl _) rfl | wtm_at "ev"
      | int b =>
        wtm_at "st"
        case k1 => intro hc; cases hc
        case k2 =>
        intro hc F As σ H S
        try dsimp only
        wtm_at "st"
        wtm_at "st"
        case k1 => intro hc; cases hc
        case k2 =>
        intro hc F As σ H S
        try dsimp only
        wtm_at "st"
        wtm_at "st"
        case k2 => intro hc; cases hc
        case k1 =>
        intro hc F As σ H S
        try dsimp only
        refine s_ret S (r := rbl (true && true)) (M' := []) ?_ fun v F As σ H S r => post _ _ _ _ _ _ _ S rfl r
        repeat' first | exact od_eqS1 (.int _) rfl | wtm_at "ev"
      | str b =>
        wtm_at "st"
        case k1 => intro hc; cases hc
        case k2 =>
        intro hc F As σ H S
        try dsimp only
        wtm_at "st"
        wtm_at "st"
        case k1 => intro hc; cases hc
        case k2 =>
        intro hc F As σ H S
        try dsimp only
        wtm_at "st"
        wtm_at "st"
        case k1 => intro hc; cases hc
        case k2 =>
        intro hc F As σ H S
        try dsimp only
        wtm_at "st"
        wtm_at "st"
        case k2 => intro hc; cases hc
        case k1 =>
        intro hc F As σ H S
        try dsimp only
        refine s_ret S (r := rbl (true && true)) (M' := []) ?_ fun v F As σ H S r => post _ _ _ _ _ _ _ S rfl r
        repeat' first | exact od_eqS1 (.str _) (by simp [SeqAt.shaped, PyData.canLay0, PyData.depth]; exact hp) | wtm_at "ev"
      | lst ds =>
        obtain ⟨hl, hp⟩ := hp
        wtm_at "st"
        case k1 => intro hc; cases hc
        case k2 =>
        intro hc F As σ H S
        try dsimp only
        wtm_at "st"
        wtm_at "st"
        case k1 => intro hc; cases hc
        case k2 =>
        intro hc F As σ H S
        try dsimp only
        wtm_at "st"
        wtm_at "st"
        case k1 => intro hc; cases hc
        case k2 =>
        intro hc F As σ H S
        try dsimp only
        wtm_at "st"
        wtm_at "st"
        case k1 => intro hc; cases hc
        case k2 =>
        intro hc F As σ H S
        try dsimp only
        wtm_at "st"
        wtm_at "st"
        case k1 => intro hc; cases hc
        case k2 =>
        intro hc F As σ H S
        try dsimp only
        wtm_at "st"
        wtm_at "st"
        case k1 => intro hc; cases hc
        case k2 =>
        intro hc F As σ H S
        try dsimp only
        wtm_at "st"
        wtm_at "st"
        case k1 => intro hc; simp at hc
        case k2 =>
        intro hc F As σ H S
        try dsimp only
        wtm_at "st"
        refine' q_forR1 (by assumption) (n := ds.length) ?h ?hn (fun i M E => M = [] ∧ ∃ x, E = [some (.dat (.lst ds)), some (.dat (.lst ds)), x]) ?h0 ?hb ?hd
        case h => repeat' wtm_at "ev"
        case hn => omega
        case h0 => exact ⟨rfl, _, rfl⟩
        case hd =>
          rintro M E ⟨rfl, x, rfl⟩ F As σ H S
          wtm_at "st"
          exact post _ _ _ _ _ _ _ (by assumption) rfl (by assumption)
        case hb =>
          rintro i M E hi ⟨rfl, x, rfl⟩ F As σ H S
          try dsimp only
          have hi : i < ds.length := by omega
          have hg : atI ds (i : Nat) = some ds[i] := atI_of (by omega) (by rw [Int.toNat_natCast]; exact List.getElem?_eq_getElem hi)
          refine' s_if S (b := false) (et_not (b := true) (et_B (ev_call0 (d := .bl true) (ea_cons (ev_op (ev_var rfl) (ev_var rfl) ?g1) (ea_cons (ev_op (ev_var rfl) (ev_var rfl) ?g2) ea_nil)) ?g3 ?g4))) ?g5 ?g6
          case g1 => exact od_ixD (.inl rfl) hg
          case g2 => exact od_ixD (.inl rfl) hg
          case g3 => intro z; cases z
          case g4 =>
            cases n with
            | zero => exact (hp _ (List.getElem_mem hi)).elim
            | succ n => exact ⟨_, rfl, rfl, hp _ (List.getElem_mem hi), rfl, rfl⟩
          case g5 => intro hc; cases hc
          case g6 =>
            intro hc F As σ H S
            exact s_end S ⟨rfl, _, rfl⟩ (Ele.refl _)
      | tup ds =>
        obtain ⟨hl, hp⟩ := hp
        wtm_at "st"
        case k1 => intro hc; cases hc
        case k2 =>
        intro hc F As σ H S
        try dsimp only
        wtm_at "st"
        wtm_at "st"
        case k1 => intro hc; cases hc
        case k2 =>
        intro hc F As σ H S
        try dsimp only
        wtm_at "st"
        wtm_at "st"
        case k1 => intro hc; cases hc
        case k2 =>
        intro hc F As σ H S
        try dsimp only
        wtm_at "st"
        wtm_at "st"
        case k1 => intro hc; cases hc
        case k2 =>
        intro hc F As σ H S
        try dsimp only
        wtm_at "st"
        wtm_at "st"
        case k1 => intro hc; cases hc
        case k2 =>
        intro hc F As σ H S
        try dsimp only
        wtm_at "st"
        wtm_at "st"
        case k1 => intro hc; cases hc
        case k2 =>
        intro hc F As σ H S
        try dsimp only
        wtm_at "st"
        wtm_at "st"
        case k1 => intro hc; simp at hc
        case k2 =>
        intro hc F As σ H S
        try dsimp only
        wtm_at "st"
        refine' q_forR1 (by assumption) (n := ds.length) ?h ?hn (fun i M E => M = [] ∧ ∃ x, E = [some (.dat (.tup ds)), some (.dat (.tup ds)), x]) ?h0 ?hb ?hd
        case h => repeat' wtm_at "ev"
        case hn => omega
        case h0 => exact ⟨rfl, _, rfl⟩
        case hd =>
          rintro M E ⟨rfl, x, rfl⟩ F As σ H S
          wtm_at "st"
          exact post _ _ _ _ _ _ _ (by assumption) rfl (by assumption)
        case hb =>
          rintro i M E hi ⟨rfl, x, rfl⟩ F As σ H S
          try dsimp only
          have hi : i < ds.length := by omega
          have hg : atI ds (i : Nat) = some ds[i] := atI_of (by omega) (by rw [Int.toNat_natCast]; exact List.getElem?_eq_getElem hi)
          refine' s_if S (b := false) (et_not (b := true) (et_B (ev_call0 (d := .bl true) (ea_cons (ev_op (ev_var rfl) (ev_var rfl) ?g1) (ea_cons (ev_op (ev_var rfl) (ev_var rfl) ?g2) ea_nil)) ?g3 ?g4))) ?g5 ?g6
          case g1 => exact od_ixDT hg
          case g2 => exact od_ixDT hg
          case g3 => intro z; cases z
          case g4 =>
            cases n with
            | zero => exact (hp _ (List.getElem_mem hi)).elim
            | succ n => exact ⟨_, rfl, rfl, hp _ (List.getElem_mem hi), rfl, rfl⟩
          case g5 => intro hc; cases hc
          case g6 =>
            intro hc F As σ H S
            exact s_end S ⟨rfl, _, rfl⟩ (Ele.refl _)
      | dct _ => exact hp.elim
      | ins _ _ => exact hp.elim
      | err _ _ _ _ => exact hp.elim
      | scr _ => exact hp.elim
end K09
set_option Elab.async false
set_option linter.all false
set_option maxRecDepth 100000
set_option maxHeartbeats 4000000
namespace K09
open PySem L2 DL
/-! ### the steps: one rule an expression, by its reading's head -/
local macro_rules | `(tactic| wtm_at "ev") => `(tactic| first
  | exact ev_var rfl
  | exact ev_int
  | exact ev_non
  | exact ev_bl
  | exact ev_str
  | exact ea_nil
  | with_reducible apply ea_cons
  | ((with_reducible refine' ev_isi ?a ?b ?c); (case' a => repeat' wtm_at "ev"); (case' b => exact rfl); (case' c => exact rfl))
  | with_reducible apply ev_cb
  | with_reducible apply ev_op
  | with_reducible apply ev_un
  | with_reducible apply et_test
  | with_reducible apply et_B
  | with_reducible apply et_not
  | with_reducible apply ev_isN
  | with_reducible apply ev_notN
  | with_reducible apply ev_notV
  | with_reducible apply et_and
  | with_reducible apply et_or
  | with_reducible apply ev_andV
  | with_reducible apply ev_orV
  | with_reducible apply ev_ifI
  | with_reducible apply ev_ifD
  | ((with_reducible refine' ev_dnotin ?a ?b ?c ?d); (case' a => repeat' wtm_at "ev"); (case' b => repeat' wtm_at "ev"); (case' c => exact rfl); (case' d => first | exact .inl rfl | exact .inr ⟨_, rfl, rfl⟩))
  | ((with_reducible refine' ev_din ?a ?b ?c ?d); (case' a => repeat' wtm_at "ev"); (case' b => repeat' wtm_at "ev"); (case' c => exact rfl); (case' d => first | exact .inl rfl | exact .inr ⟨_, rfl, rfl⟩))
  | with_reducible apply ev_lcLAI
  | with_reducible apply ev_lcLII
  | with_reducible apply ev_lcLA
  | with_reducible apply ev_lcLI
  | with_reducible apply ev_lcRAI
  | with_reducible apply ev_lcRI
  | with_reducible apply ev_lcRA
  | with_reducible apply ev_lcR
  | exact et_yes
  | with_reducible intro _
  | exact od_int
  | exact od_bool
  | exact od_eqI
  | exact od_neI
  | exact od_eqS
  | exact od_neS
  | exact ud_neg
  | exact cd_abs
  | exact cd_max2
  | exact cd_min2
  | exact cd_int
  | exact cd_intB
  | exact cd_lenScr
  | exact cd_lenT
  | exact cd_lenI (.inl rfl)
  | exact cd_lenI (.inr ⟨_, rfl, rfl⟩)
  | exact cd_len (.inl rfl)
  | exact cd_len (.inr ⟨_, rfl, rfl⟩)
  | exact cd_lenD (.inl rfl)
  | exact cd_lenD (.inr ⟨_, rfl, rfl⟩)
  | exact cd_sum (.inl rfl)
  | exact cd_sorted (.inl rfl)
  | exact cd_list (.inl rfl)
  | exact cd_listT
  | exact eo_none
  | with_reducible apply eo_some
  | with_reducible apply ev_sliceScr
  | refine' ev_sliceI ?_ ?_ ?_ (.inl rfl)
  | with_reducible apply od_intC
  | with_reducible apply od_ixScr
  | refine' od_ixI (.inl rfl) ?_ ?_
  | refine' od_ixI (.inr ⟨_, rfl, rfl⟩) ?_ ?_
  | exact od_ixT rfl
  | exact od_inI (.inl rfl)
  | exact od_notinI (.inl rfl)
  | refine' od_cat (.inl rfl) (.inl rfl) ?_
  | ((with_reducible refine' ev_tup ?h ?r ?l); (case' h => repeat' wtm_at "ev"); (case' r => exact rfl); (case' l => exact Nat.le_of_ble_eq_true rfl))
  | (refine (show CMul _ _ from .inl ⟨?_, ?_⟩) <;> decide)
  | (refine (show CMul _ _ from .inr ⟨?_, ?_⟩) <;> decide)
  | (refine (show (_ : Prop) from ?_); assumption)
  | (refine (show CDiv _ _ from ⟨?_, ?_⟩) <;> omega)
  | (refine (show CPow _ _ from ⟨?_, ?_, ?_⟩) <;> decide)
  | omega
  | (simp only [Pz.len]; done)
  | (simp only [Pz.len, List.length_map, List.length_append, List.length_range, List.length_set, List.length_reverse]; omega))
/-! a statement's step: its values are reckoned, what is left is the way on -/
local macro_rules | `(tactic| wtm_at "st") => `(tactic| first
  | (refine' q_set (by assumption) ?h ?k; (case' h => repeat' wtm_at "ev"); (case' k => (intro _ _ _ _ _; try dsimp only)))
  | (refine' s_set (by assumption) ?h ?k; (case' h => repeat' wtm_at "ev"); (case' k => (intro _ _ _ _ _; try dsimp only)))
  | (refine' q_augS (by assumption) ?h1 ?h2 ?h3 ?r1 ?r2 ?s1 ?s2 ?k; (case' h1 => repeat' wtm_at "ev"); (case' h2 => repeat' wtm_at "ev"); (case' h3 => repeat' wtm_at "ev"); (case' r1 => exact rfl); (case' r2 => exact rfl); (case' s1 => try wtm_at "ev"); (case' s2 => try wtm_at "ev"); (case' k => (intro _ _ _ _ _; try dsimp only)))
  | (refine' s_augS (by assumption) ?h1 ?h2 ?h3 ?r1 ?r2 ?s1 ?s2 ?k; (case' h1 => repeat' wtm_at "ev"); (case' h2 => repeat' wtm_at "ev"); (case' h3 => repeat' wtm_at "ev"); (case' r1 => exact rfl); (case' r2 => exact rfl); (case' s1 => try wtm_at "ev"); (case' s2 => try wtm_at "ev"); (case' k => (intro _ _ _ _ _; try dsimp only)))
  | (refine' q_setLI (by assumption) ?h ?h1 ?h2 ?r1 ?s1 ?s2 ?k; (case' h => repeat' wtm_at "ev"); (case' h1 => repeat' wtm_at "ev"); (case' h2 => repeat' wtm_at "ev"); (case' r1 => exact rfl); (case' s1 => try wtm_at "ev"); (case' s2 => try wtm_at "ev"); (case' k => (intro _ _ _ _ _; try dsimp only)))
  | (refine' q_setL (by assumption) ?h ?h1 ?h2 ?r1 ?s1 ?s2 ?k; (case' h => repeat' wtm_at "ev"); (case' h1 => repeat' wtm_at "ev"); (case' h2 => repeat' wtm_at "ev"); (case' r1 => exact rfl); (case' s1 => try wtm_at "ev"); (case' s2 => try wtm_at "ev"); (case' k => (intro _ _ _ _ _; try dsimp only)))
  | (refine' s_setLI (by assumption) ?h ?h1 ?h2 ?r1 ?s1 ?s2 ?k; (case' h => repeat' wtm_at "ev"); (case' h1 => repeat' wtm_at "ev"); (case' h2 => repeat' wtm_at "ev"); (case' r1 => exact rfl); (case' s1 => try wtm_at "ev"); (case' s2 => try wtm_at "ev"); (case' k => (intro _ _ _ _ _; try dsimp only)))
  | (refine' s_setL (by assumption) ?h ?h1 ?h2 ?r1 ?s1 ?s2 ?k; (case' h => repeat' wtm_at "ev"); (case' h1 => repeat' wtm_at "ev"); (case' h2 => repeat' wtm_at "ev"); (case' r1 => exact rfl); (case' s1 => try wtm_at "ev"); (case' s2 => try wtm_at "ev"); (case' k => (intro _ _ _ _ _; try dsimp only)))
  | (refine' q_appI (by assumption) ?h1 ?h ?r1 ?r2 ?s ?k; (case' h1 => repeat' wtm_at "ev"); (case' h => repeat' wtm_at "ev"); (case' r1 => exact rfl); (case' r2 => exact rfl); (case' s => try wtm_at "ev"); (case' k => (intro _ _ _ _ _; try dsimp only)))
  | (refine' q_app (by assumption) ?h1 ?h ?r1 ?r2 ?s ?k; (case' h1 => repeat' wtm_at "ev"); (case' h => repeat' wtm_at "ev"); (case' r1 => exact rfl); (case' r2 => exact rfl); (case' s => try wtm_at "ev"); (case' k => (intro _ _ _ _ _; try dsimp only)))
  | (refine' s_appI (by assumption) ?h1 ?h ?r1 ?r2 ?s ?k; (case' h1 => repeat' wtm_at "ev"); (case' h => repeat' wtm_at "ev"); (case' r1 => exact rfl); (case' r2 => exact rfl); (case' s => try wtm_at "ev"); (case' k => (intro _ _ _ _ _; try dsimp only)))
  | (refine' s_app (by assumption) ?h1 ?h ?r1 ?r2 ?s ?k; (case' h1 => repeat' wtm_at "ev"); (case' h => repeat' wtm_at "ev"); (case' r1 => exact rfl); (case' r2 => exact rfl); (case' s => try wtm_at "ev"); (case' k => (intro _ _ _ _ _; try dsimp only)))
  | (refine' q_dput (by assumption) ?h ?h1 ?h2 ?r1 ?r2 ?s ?k; (case' h => repeat' wtm_at "ev"); (case' h1 => repeat' wtm_at "ev"); (case' h2 => repeat' wtm_at "ev"); (case' r1 => exact rfl); (case' r2 => exact rfl); (case' s => try wtm_at "ev"); (case' k => (intro _ _ _ _ _; try dsimp only)))
  | (refine' s_dput (by assumption) ?h ?h1 ?h2 ?r1 ?r2 ?s ?k; (case' h => repeat' wtm_at "ev"); (case' h1 => repeat' wtm_at "ev"); (case' h2 => repeat' wtm_at "ev"); (case' r1 => exact rfl); (case' r2 => exact rfl); (case' s => try wtm_at "ev"); (case' k => (intro _ _ _ _ _; try dsimp only)))
  | (refine' q_tup2 (by assumption) ?h ?k; (case' h => repeat' wtm_at "ev"); (case' k => (intro _ _ _ _ _; try dsimp only)))
  | (refine' q_drop (by assumption) ?h ?k; (case' h => repeat' wtm_at "ev"); (case' k => (intro _ _ _ _ _; try dsimp only)))
  | (refine' q_if (by assumption) ?h ?k1 ?k2; (case' h => repeat' wtm_at "ev"))
  | (refine' s_if (by assumption) ?h ?k1 ?k2; (case' h => repeat' wtm_at "ev"))
  | (refine' s_ret (by assumption) ?h ?k; (case' h => repeat' wtm_at "ev"); (case' k => (intro _ _ _ _ _ _ _; try dsimp only)))
  | (refine' q_ret (by assumption) ?h ?k; (case' h => repeat' wtm_at "ev"); (case' k => (intro _ _ _ _ _ _ _; try dsimp only)))
  | ((with_reducible refine' s_next (by assumption) ?k); (case' k => (intro _ _ _ _ _; try dsimp only)))
  | (with_reducible refine q_next ?_))

def ph_lbel : List MC → List Rv → List MC → Out → Prop := fun M rs M' o => ∃ bs e, M = [] ∧ rs = [rints bs, rint e] ∧ bs.length ≤ 1000000 ∧ M' = [] ∧ o = .ret (.int (belV bs e))
abbrev sp__law_below (K : PySem.W.Frag) : Sp := FSp K ph_lbel
theorem ok__law_below {P : Program} {w : World} {K : PySem.W.Frag} {mg : Str → Option Value} {base : Heap} {ad : Ad} {fd : Fd} (T : Txt K mg w ad fd) : FnOk P w K mg base CX0 1 ad.a__law_below fd.d__law_below ["bores", "e"] (sp__law_below K) := by
  refine L2.Fun.ok (k := 0) T.F__law_below sc__law_below (fun vs H Q E h => ?_) (fun cdv A outer s H vs Q E hr h => ?_)
  · exact h.len fun M rs M' o ⟨_, _, _, e, _⟩ => by rw [e]; rfl
  · refine ⟨_, (pss_one (ps_ret (pe_callB (call_lenK (K := K) rfl) (by rfl) T.n_len (by decide +kernel) (pa_cons (pe_lc rfl sc__law_below.nd (pi_listK (K := K) rfl (pv 0)) (blkOk_by (own := [("bore", 2)]) (N := N__law_below) (sc := defScope s__law_below) (by decide +kernel)) (fun _ _ _ _ _ => (pg_name (i := 2) sc__law_below.nd rfl (by first | exact Or.inl rfl | exact Or.inr rfl))) (fun _ _ _ _ _ => (pts_one (pt_cmpR op_lt (pv 2) (pv 1) (nomark _)))) (fun _ _ _ _ _ => (pv 2))) pa_nil)))), ?_⟩
    try dsimp only [cxOf, Cx.nox, Cx.wish, List.map]
    refine h.reading fun F As M rs M' o hΦ hL B S hB hA post => ?_
    obtain ⟨bs, e, rfl, rfl, hl, rfl, rfl⟩ := hΦ
    refine s_ret (r := rint (belV bs e)) (M' := []) S (ev_is (ev_cb (ea_cons (ev_lcLII (ns := bs) (fun z => decide (z < e)) (fun z => z) (ev_var rfl) (by omega) (fun z _ => et_test (ev_op (ev_var (r := rint z) rfl) (ev_var (r := rint e) rfl) od_bool)) (fun z _ _ => ev_var rfl)) ea_nil) (cd_lenI (.inl rfl))) (by rw [List.length_map]; rfl)) fun v F As σ H S r => post _ _ _ _ _ _ _ S rfl r
def ph_labv : List MC → List Rv → List MC → Out → Prop := fun M rs M' o => ∃ ps e, M = [] ∧ rs = [rints ps, rint e] ∧ ps.length ≤ 1000000 ∧ M' = [] ∧ o = .ret (.int (abvV ps e))
abbrev sp__law_above (K : PySem.W.Frag) : Sp := FSp K ph_labv
theorem ok__law_above {P : Program} {w : World} {K : PySem.W.Frag} {mg : Str → Option Value} {base : Heap} {ad : Ad} {fd : Fd} (T : Txt K mg w ad fd) : FnOk P w K mg base CX0 1 ad.a__law_above fd.d__law_above ["pins", "e"] (sp__law_above K) := by
  refine L2.Fun.ok (k := 0) T.F__law_above sc__law_above (fun vs H Q E h => ?_) (fun cdv A outer s H vs Q E hr h => ?_)
  · exact h.len fun M rs M' o ⟨_, _, _, e, _⟩ => by rw [e]; rfl
  · refine ⟨_, (pss_one (ps_ret (pe_callB (call_lenK (K := K) rfl) (by rfl) T.n_len (by decide +kernel) (pa_cons (pe_lc rfl sc__law_above.nd (pi_listK (K := K) rfl (pv 0)) (blkOk_by (own := [("pin", 2)]) (N := N__law_above) (sc := defScope s__law_above) (by decide +kernel)) (fun _ _ _ _ _ => (pg_name (i := 2) sc__law_above.nd rfl (by first | exact Or.inl rfl | exact Or.inr rfl))) (fun _ _ _ _ _ => (pts_one (pt_cmpR op_ge (pv 2) (pv 1) (nomark _)))) (fun _ _ _ _ _ => (pv 2))) pa_nil)))), ?_⟩
    try dsimp only [cxOf, Cx.nox, Cx.wish, List.map]
    refine h.reading fun F As M rs M' o hΦ hL B S hB hA post => ?_
    obtain ⟨ps, e, rfl, rfl, hl, rfl, rfl⟩ := hΦ
    refine s_ret (r := rint (abvV ps e)) (M' := []) S (ev_is (ev_cb (ea_cons (ev_lcLII (ns := ps) (fun z => decide (e ≤ z)) (fun z => z) (ev_var rfl) (by omega) (fun z _ => et_test (ev_op (ev_var (r := rint z) rfl) (ev_var (r := rint e) rfl) od_bool)) (fun z _ _ => ev_var rfl)) ea_nil) (cd_lenI (.inl rfl))) (by rw [List.length_map]; rfl)) fun v F As σ H S r => post _ _ _ _ _ _ _ S rfl r
structure Arg (t : Int) (bs ps : List Int) : Prop where
  t0 : 0 ≤ t
  t1 : t ≤ 100000
  b : bs.length ≤ 1000000
  p : ps.length ≤ 1000000
/-! ### the skyline and its turns -/
def wV (bs ps : List Int) (e : Int) : Int := belV bs e + abvV ps e
def skyR (t : Int) (bs ps : List Int) : List Int := arr t.toNat fun k => wV bs ps ((k : Int) + 1)
def absI (i : Int) : Int := if i < 0 then -i else i
/-- the sum of all steps of a row -/
def trn (xs : List Int) : Int := (arr (xs.length - 1) fun k => absI (gI xs ((k : Int) + 1) - gI xs (k : Int))).sum
theorem sum_snoc (xs : List Int) (x : Int) : (xs ++ [x]).sum = xs.sum + x := by
  rw [List.sum_append]
  show _ + (x + 0) = _
  omega
def ph_trn : List MC → List Rv → List MC → Out → Prop := fun M rs M' o => ∃ xs, M = [] ∧ rs = [rints xs] ∧ (1 ≤ xs.length ∧ xs.length ≤ 1000) ∧ M' = [] ∧ o = .ret (.int (trn xs))
abbrev sp_turns_of (K : PySem.W.Frag) : Sp := FSp K ph_trn
abbrev sp__law_turns (K : PySem.W.Frag) : Sp := FSp K ph_trn
theorem ok_turns_of {P : Program} {w : World} {K : PySem.W.Frag} {mg : Str → Option Value} {base : Heap} {ad : Ad} {fd : Fd} (T : Txt K mg w ad fd) : FnOk P w K mg base CX0 1 ad.a_turns_of fd.d_turns_of ["row"] (sp_turns_of K) := by
  refine L2.Fun.ok (k := 0) T.F_turns_of sc_turns_of (fun vs H Q E h => ?_) (fun cdv A outer s H vs Q E hr h => ?_)
  · exact h.len fun M rs M' o ⟨_, _, e, _⟩ => by rw [e]; rfl
  · refine ⟨_, (pss_cons (ps_set (i := 1) sc_turns_of.nd rfl (by first | exact Or.inl rfl | exact Or.inr rfl) (pe_int))
  (pss_cons (ps_for PassesOwn.never rfl (pi_range2 (by rfl) T.n_range (pa_cons (pe_int) (pa_cons (pe_callB (call_lenK (K := K) rfl) (by rfl) T.n_len (by decide +kernel) (pa_cons (pv 0) pa_nil)) pa_nil))) (pg_name (i := 2) sc_turns_of.nd rfl (by first | exact Or.inl rfl | exact Or.inr rfl))
  (pss_one (ps_aug (i := 1) sc_turns_of.nd rfl (by first | exact Or.inl rfl | exact Or.inr rfl) (pe_callB call_abs (by rfl) T.n_abs (by decide +kernel) (pa_cons (pe_op op_sub (pe_ix (ix_listK (K := K) rfl) (pv 0) (pv 2) (fun _ _ => rfl)) (pe_ix (ix_listK (K := K) rfl) (pv 0) (pe_op op_sub (pv 2) (pe_int)) (fun _ _ => rfl))) pa_nil)) ip_add)))
  (pss_one (ps_ret (pv 1))))), ?_⟩
    try dsimp only [cxOf, Cx.nox, Cx.wish, List.map]
    refine h.reading fun F As M rs M' o hΦ hL B S hB hA post => ?_
    obtain ⟨xs, rfl, rfl, hl, rfl, rfl⟩ := hΦ
    refine q_set S (M' := []) ev_int ?_
    intro F As σ H S
    try dsimp only
    refine' q_forR2 S (a := 1) (n := xs.length) (ea_cons ev_int (ea_cons (ev_cb (ea_cons (ev_var (r := rints xs) rfl) ea_nil) (cd_lenI (.inl rfl))) ea_nil)) ⟨by omega, by omega, by omega, by omega⟩ (fun i M E => M = [] ∧ ∃ x, E = [some (rints xs), some (rint (arr i fun k => absI (gI xs ((k : Int) + 1) - gI xs (k : Int))).sum), x]) ⟨rfl, _, rfl⟩ ?hb ?hd
    case hd =>
      rintro M E ⟨rfl, x, rfl⟩ F As σ H S
      rw [show ((xs.length : Int) - 1).toNat = xs.length - 1 by omega] at S
      exact s_ret S (r := rint (trn xs)) (ev_var rfl) fun v F As σ H S r => post _ _ _ _ _ _ _ S rfl r
    case hb =>
      rintro i M E hi ⟨rfl, x, rfl⟩ F As σ H S
      try dsimp only
      refine s_aug S (a := (arr i fun k => absI (gI xs ((k : Int) + 1) - gI xs (k : Int))).sum) (c := absI (gI xs (1 + (i : Int)) - gI xs (1 + (i : Int) - 1))) rfl (ev_cb (ea_cons (ev_op (ev_op (ev_var (r := rints xs) rfl) (ev_var (r := rint (1 + (i : Int))) rfl) (od_ixI (.inl rfl) (by omega) (by omega))) (ev_op (ev_var (r := rints xs) rfl) (ev_op (ev_var (r := rint (1 + (i : Int))) rfl) ev_int od_int) (od_ixI (.inl rfl) (by omega) (by omega))) od_int) ea_nil) cd_abs) ?_
      intro F As σ H S
      refine s_end S ⟨rfl, some (rint (1 + (i : Int))), ?_⟩ (Ele.refl _)
      rw [arr_snoc, sum_snoc, show (1 : Int) + (i : Int) - 1 = (i : Int) by omega, show (1 : Int) + (i : Int) = (i : Int) + 1 by omega]
      rfl
theorem ok__law_turns {P : Program} {w : World} {K : PySem.W.Frag} {mg : Str → Option Value} {base : Heap} {ad : Ad} {fd : Fd} (T : Txt K mg w ad fd) : FnOk P w K mg base CX0 1 ad.a__law_turns fd.d__law_turns ["row"] (sp__law_turns K) := by
  refine L2.Fun.ok (k := 0) T.F__law_turns sc__law_turns (fun vs H Q E h => ?_) (fun cdv A outer s H vs Q E hr h => ?_)
  · exact h.len fun M rs M' o ⟨_, _, e, _⟩ => by rw [e]; rfl
  · refine ⟨_, (pss_cons (ps_set (i := 1) sc__law_turns.nd rfl (by first | exact Or.inl rfl | exact Or.inr rfl) (pe_int))
  (pss_cons (ps_for PassesOwn.never rfl (pi_range2 (by rfl) T.n_range (pa_cons (pe_int) (pa_cons (pe_callB (call_lenK (K := K) rfl) (by rfl) T.n_len (by decide +kernel) (pa_cons (pv 0) pa_nil)) pa_nil))) (pg_name (i := 2) sc__law_turns.nd rfl (by first | exact Or.inl rfl | exact Or.inr rfl))
  (pss_one (ps_aug (i := 1) sc__law_turns.nd rfl (by first | exact Or.inl rfl | exact Or.inr rfl) (pe_callB call_abs (by rfl) T.n_abs (by decide +kernel) (pa_cons (pe_op op_sub (pe_ix (ix_listK (K := K) rfl) (pv 0) (pv 2) (fun _ _ => rfl)) (pe_ix (ix_listK (K := K) rfl) (pv 0) (pe_op op_sub (pv 2) (pe_int)) (fun _ _ => rfl))) pa_nil)) ip_add)))
  (pss_one (ps_ret (pv 1))))), ?_⟩
    try dsimp only [cxOf, Cx.nox, Cx.wish, List.map]
    refine h.reading fun F As M rs M' o hΦ hL B S hB hA post => ?_
    obtain ⟨xs, rfl, rfl, hl, rfl, rfl⟩ := hΦ
    refine q_set S (M' := []) ev_int ?_
    intro F As σ H S
    try dsimp only
    refine' q_forR2 S (a := 1) (n := xs.length) (ea_cons ev_int (ea_cons (ev_cb (ea_cons (ev_var (r := rints xs) rfl) ea_nil) (cd_lenI (.inl rfl))) ea_nil)) ⟨by omega, by omega, by omega, by omega⟩ (fun i M E => M = [] ∧ ∃ x, E = [some (rints xs), some (rint (arr i fun k => absI (gI xs ((k : Int) + 1) - gI xs (k : Int))).sum), x]) ⟨rfl, _, rfl⟩ ?hb ?hd
    case hd =>
      rintro M E ⟨rfl, x, rfl⟩ F As σ H S
      rw [show ((xs.length : Int) - 1).toNat = xs.length - 1 by omega] at S
      exact s_ret S (r := rint (trn xs)) (ev_var rfl) fun v F As σ H S r => post _ _ _ _ _ _ _ S rfl r
    case hb =>
      rintro i M E hi ⟨rfl, x, rfl⟩ F As σ H S
      try dsimp only
      refine s_aug S (a := (arr i fun k => absI (gI xs ((k : Int) + 1) - gI xs (k : Int))).sum) (c := absI (gI xs (1 + (i : Int)) - gI xs (1 + (i : Int) - 1))) rfl (ev_cb (ea_cons (ev_op (ev_op (ev_var (r := rints xs) rfl) (ev_var (r := rint (1 + (i : Int))) rfl) (od_ixI (.inl rfl) (by omega) (by omega))) (ev_op (ev_var (r := rints xs) rfl) (ev_op (ev_var (r := rint (1 + (i : Int))) rfl) ev_int od_int) (od_ixI (.inl rfl) (by omega) (by omega))) od_int) ea_nil) cd_abs) ?_
      intro F As σ H S
      refine s_end S ⟨rfl, some (rint (1 + (i : Int))), ?_⟩ (Ele.refl _)
      rw [arr_snoc, sum_snoc, show (1 : Int) + (i : Int) - 1 = (i : Int) by omega, show (1 : Int) + (i : Int) = (i : Int) + 1 by omega]
      rfl

def ph_sky : List MC → List Rv → List MC → Out → Prop := fun M rs M' o => ∃ t bs ps, M = [] ∧ rs = [rint t, rints bs, rints ps] ∧ (0 ≤ t ∧ t ≤ 1000) ∧ Sz t bs ∧ Sz t ps ∧ M' = [] ∧ o = .new (.lst ((skyR t bs ps).map D.int))
abbrev sp_skyline_of (K : PySem.W.Frag) : Sp := FSp K ph_sky
theorem take_snoc {α : Type} {bs : List α} {i : Nat} {z : α} (hi : bs[i]? = some z) : bs.take (i + 1) = bs.take i ++ [z] := by
  rw [List.take_succ, hi]; rfl
theorem risen {n : Nat} {f : Nat → Int} {z : Int} (h0 : 0 ≤ z) (h1 : z < n) {c : Int} : (arr n f).set z.toNat (gI (arr n f) z + c) = arr n fun k => f k + if z = (k : Int) then c else 0 := by
  have e : z = ((z.toNat : Nat) : Int) := by omega
  rw [arr_set]
  refine arr_ext fun k hk => ?_
  by_cases q : k = z.toNat
  · rw [if_pos q, if_pos (by omega)]
    rw [show gI (arr n f) z = f z.toNat by rw [e]; exact arr_at (by omega), q]
  · rw [if_neg q, if_neg (by omega), Int.add_zero]
theorem ok_skyline_of {P : Program} {w : World} {K : PySem.W.Frag} {mg : Str → Option Value} {base : Heap} {ad : Ad} {fd : Fd} (T : Txt K mg w ad fd) : FnOk P w K mg base CX0 1 ad.a_skyline_of fd.d_skyline_of ["top", "bores", "pins"] (sp_skyline_of K) := by
  refine L2.Fun.ok (k := 0) T.F_skyline_of sc_skyline_of (fun vs H Q E h => ?_) (fun cdv A outer s H vs Q E hr h => ?_)
  · exact h.len fun M rs M' o ⟨_, _, _, _, e, _⟩ => by rw [e]; rfl
  · refine ⟨_, (pss_cons (ps_set (i := 3) sc_skyline_of.nd rfl (by first | exact Or.inl rfl | exact Or.inr rfl) (pe_op op_rep (pe_lst (pa_cons (pe_int) pa_nil)) (pe_op op_add (pv 0) (pe_int))))
  (pss_cons (ps_for PassesOwn.never rfl (pi_listK (K := K) rfl (pv 1)) (pg_name (i := 4) sc_skyline_of.nd rfl (by first | exact Or.inl rfl | exact Or.inr rfl))
  (pss_one (ps_augS (pv 3) (pv 4) (pget_listK (K := K) rfl) (pe_int) ip_add set_list)))
  (pss_cons (ps_for PassesOwn.never rfl (pi_listK (K := K) rfl (pv 2)) (pg_name (i := 4) sc_skyline_of.nd rfl (by first | exact Or.inl rfl | exact Or.inr rfl))
  (pss_one (ps_augS (pv 3) (pv 4) (pget_listK (K := K) rfl) (pe_int) ip_sub set_list)))
  (pss_cons (ps_set (i := 5) sc_skyline_of.nd rfl (by first | exact Or.inl rfl | exact Or.inr rfl) (pe_callB (call_lenK (K := K) rfl) (by rfl) T.n_len (by decide +kernel) (pa_cons (pv 2) pa_nil)))
  (pss_cons (ps_set (i := 6) sc_skyline_of.nd rfl (by first | exact Or.inl rfl | exact Or.inr rfl) (pe_lst pa_nil))
  (pss_cons (ps_for PassesOwn.never rfl (pi_range2 (by rfl) T.n_range (pa_cons (pe_int) (pa_cons (pe_op op_add (pv 0) (pe_int)) pa_nil))) (pg_name (i := 7) sc_skyline_of.nd rfl (by first | exact Or.inl rfl | exact Or.inr rfl))
  (pss_cons (ps_aug (i := 5) sc_skyline_of.nd rfl (by first | exact Or.inl rfl | exact Or.inr rfl) (pe_ix (ix_listK (K := K) rfl) (pv 3) (pe_op op_sub (pv 7) (pe_int)) (fun _ _ => rfl)) ip_add)
  (pss_one (ps_expr (pe_bmK (K := K) (id := "list.append") rfl (pe_bm PySem.F.plainAttrs_list PySem.F.slot_list_append PySem.F.type_list_append mt_append (pv 6) (pa_cons (pv 5) pa_nil)))))))
  (pss_one (ps_ret (pv 6))))))))), ?_⟩
    try dsimp only [cxOf, Cx.nox, Cx.wish, List.map]
    refine h.reading fun F As M rs M' o hΦ hL B S hB hA post => ?_
    obtain ⟨t, bs, ps, rfl, rfl, ht, hb, hp, rfl, rfl⟩ := hΦ
    refine q_set S (ev_isM (ev_op (ev_lst (ds := [D.int 0]) (ea_cons ev_int ea_nil) rfl (Nat.le_of_ble_eq_true rfl)) (ev_op (ev_var (r := rint t) rfl) ev_int od_int) (od_repM (ds := [D.int 0]) (.inl rfl) ⟨by omega, by omega⟩ (by show 1 * _ ≤ _; omega))) (M' := [.lst ((arr (t + 1).toNat fun k => cntV (bs.take 0) k).map D.int)]) (by
      rw [flat_rep]
      show [MC.lst (List.replicate _ (D.int 0))] = [MC.lst ((arr (t + 1).toNat fun _ => 0).map D.int)]
      rw [← arr_rep, List.map_replicate])) ?_
    intro F As σ H S
    try dsimp only
    refine' q_forI S (ns := bs) (ev_var (r := rints bs) rfl) (.inl rfl) (fun i M2 E => M2 = [.lst ((arr (t + 1).toNat fun k => cntV (bs.take i) k).map D.int)] ∧ ∃ x y z u, E = [some (rint t), some (rints bs), some (rints ps), some (.cel 0), x, y, z, u]) ⟨rfl, _, _, _, _, rfl⟩ (fun i M E h => .inl rfl) ?hb ?hd
    case hb =>
      rintro B2 cv i z M2 E hi ⟨rfl, x, y, w, u, rfl⟩ F As σ H S
      have hz := hb z (List.mem_of_getElem? hi)
      try dsimp only
      refine' s_augS S (k := 0) (ns := arr (t + 1).toNat fun k => cntV (bs.take i) k) (i := z) (e := 1) (ev_var rfl) (ev_var rfl) ev_int rfl rfl hz.1 (by rw [arr_len]; omega) ?_
      intro F As σ H S
      refine s_end S ⟨?_, _, _, _, _, rfl⟩ (Ele.refl _)
      show [MC.lst (((arr (t + 1).toNat fun k => cntV (bs.take i) k).set z.toNat (gI (arr (t + 1).toNat fun k => cntV (bs.take i) k) z + 1)).map D.int)] = _
      rw [risen hz.1 (by omega), arr_ext (g := fun (k : Nat) => cntV (bs.take (i + 1)) (k : Int)) fun k _ => by rw [take_snoc hi, cnt_snoc]]
    case hd =>
    rintro M2 E ⟨rfl, x, y, w, u, rfl⟩ F As σ H S
    rw [List.take_length] at S
    refine' q_forI S (ns := ps) (ev_var (r := rints ps) rfl) (.inl rfl) (fun i M2 E => M2 = [.lst ((arr (t + 1).toNat fun k => cntV bs k - cntV (ps.take i) k).map D.int)] ∧ ∃ x y z u, E = [some (rint t), some (rints bs), some (rints ps), some (.cel 0), x, y, z, u]) ⟨?z0, _, _, _, _, rfl⟩ (fun i M E h => .inl rfl) ?ub ?ud
    case z0 =>
      rw [arr_ext (g := fun (k : Nat) => cntV bs (k : Int) - cntV (ps.take 0) (k : Int)) fun k _ => (Int.sub_zero _).symm]
    case ub =>
      rintro B2 cv i z M2 E hi ⟨rfl, x, y, w, u, rfl⟩ F As σ H S
      have hz := hp z (List.mem_of_getElem? hi)
      try dsimp only
      refine' s_augS S (k := 0) (ns := arr (t + 1).toNat fun k => cntV bs k - cntV (ps.take i) k) (i := z) (e := 1) (ev_var rfl) (ev_var rfl) ev_int rfl rfl hz.1 (by rw [arr_len]; omega) ?_
      intro F As σ H S
      refine s_end S ⟨?_, _, _, _, _, rfl⟩ (Ele.refl _)
      show [MC.lst (((arr (t + 1).toNat fun k => cntV bs k - cntV (ps.take i) k).set z.toNat (gI (arr (t + 1).toNat fun k => cntV bs k - cntV (ps.take i) k) z + -1)).map D.int)] = _
      rw [risen hz.1 (by omega), arr_ext (g := fun (k : Nat) => cntV bs (k : Int) - cntV (ps.take (i + 1)) (k : Int)) fun k _ => by
        rw [take_snoc hi, cnt_snoc]
        split <;> omega]
    case ud =>
    rintro M2 E ⟨rfl, x, y, w, u, rfl⟩ F As σ H S
    rw [List.take_length] at S
    refine q_set S (ev_cb (ea_cons (ev_var (r := rints ps) rfl) ea_nil) (cd_lenI (.inl rfl))) ?_
    intro F As σ H S
    try dsimp only
    refine q_set S (ev_lstM (ds := []) ea_nil rfl (Nat.zero_le _)) ?_
    intro F As σ H S
    try dsimp only
    have w0 : (ps.length : Int) = wV bs ps ((0 : Nat) : Int) := by
      show _ = belV bs 0 + abvV ps 0
      rw [bel_zero fun z hz => (hb z hz).1, abv_zero fun z hz => (hp z hz).1]; omega
    rw [w0] at S
    refine' q_forR2 S (a := 1) (n := t + 1) (ea_cons ev_int (ea_cons (ev_op (ev_var (r := rint t) rfl) ev_int od_int) ea_nil)) ⟨by omega, by omega, by omega, by omega⟩ (fun i M E => M = [.lst ((arr (t + 1).toNat fun k => cntV bs k - cntV ps k).map D.int), .lst ((arr i fun k => wV bs ps ((k : Int) + 1)).map D.int)] ∧ ∃ x u, E = [some (rint t), some (rints bs), some (rints ps), some (.cel 0), x, some (rint (wV bs ps (i : Int))), some (.cel 1), u]) ⟨rfl, _, _, rfl⟩ ?kb ?kd
    case kb =>
      rintro i M E hi ⟨rfl, x, u, rfl⟩ F As σ H S
      try dsimp only
      have es : wV bs ps (i : Int) + (cntV bs (i : Int) - cntV ps (i : Int)) = wV bs ps ((i : Int) + 1) := by
        unfold wV
        rw [bel_step, abv_step]; omega
      refine q_aug S (a := wV bs ps (i : Int)) (c := cntV bs (i : Int) - cntV ps (i : Int)) rfl (ev_is (ev_op (ev_var (r := .cel 0) rfl) (ev_op (ev_var (r := rint (1 + (i : Int))) rfl) ev_int od_int) (od_ixI (ns := arr (t + 1).toNat fun k => cntV bs k - cntV ps k) (.inr ⟨_, rfl, rfl⟩) (by omega) (by rw [arr_len]; omega))) (by rw [show (1 : Int) + (i : Int) - 1 = (i : Int) by omega, arr_at (by omega)])) ?_
      intro F As σ H S
      try dsimp only
      rw [es] at S
      refine s_appI (ns := arr i fun k => wV bs ps ((k : Int) + 1)) (e := wV bs ps ((i : Int) + 1)) S (ev_var (r := .cel 1) rfl) (ev_var rfl) rfl rfl (by rw [arr_len]; omega) ?_
      intro F As σ H S
      refine s_end S ⟨?_, x, some (rint (1 + (i : Int))), ?_⟩ (Ele.refl _)
      · rw [arr_snoc]; rfl
      · rw [show ((i + 1 : Nat) : Int) = (i : Int) + 1 by omega]; rfl
    case kd =>
      rintro M E ⟨rfl, x, u, rfl⟩ F As σ H S
      rw [show (t + 1 - 1).toNat = t.toNat by omega] at S
      refine s_ret S (r := .cel 1) (ev_var rfl) ?_
      intro v F As σ H S rv
      exact post _ 1 _ _ _ _ _ _ S rfl (Nat.zero_le _) rfl (by intro z; cases z) rv
/-! ### a stock -/
def stkF (t : Int) (bs ps : List Int) : List (Str × D) := [("top_number", .int t), ("bore_list", .lst ((sortI bs).map D.int)), ("pin_list", .lst ((sortI ps).map D.int))]
def stkD (ad : Ad) (t : Int) (bs ps : List Int) : D := .ins ad.C_Stock (stkF t bs ps)
theorem sk_top {t : Int} {bs ps : List Int} : (stkF t bs ps).lookup ("top_number" : Str) = some (D.int t) := by first | rfl | simp [stkF, List.lookup]
theorem sk_bores {t : Int} {bs ps : List Int} : (stkF t bs ps).lookup ("bore_list" : Str) = some (.lst ((sortI bs).map D.int)) := by first | rfl | simp [stkF, List.lookup]
theorem sk_pins {t : Int} {bs ps : List Int} : (stkF t bs ps).lookup ("pin_list" : Str) = some (.lst ((sortI ps).map D.int)) := by first | rfl | simp [stkF, List.lookup]
theorem sm_skyline {t : Int} {bs ps : List Int} : (stkF t bs ps).lookup ("skyline" : Str) = none := by first | rfl | simp [stkF, List.lookup]
theorem sm_turns {t : Int} {bs ps : List Int} : (stkF t bs ps).lookup ("turns" : Str) = none := by first | rfl | simp [stkF, List.lookup]
def ph_ckw : List MC → List Rv → List MC → Out → Prop := fun M rs M' o => ∃ s m b, M = [] ∧ rs = [rstr s, rint m, rint b] ∧ m ≤ b ∧ M' = [] ∧ o = .ret .non
abbrev sp_check_within (K : PySem.W.Frag) (ad : Ad) : Sp := FSp K ph_ckw
theorem ok_check_within {P : Program} {w : World} {K : PySem.W.Frag} {mg : Str → Option Value} {base : Heap} {ad : Ad} {fd : Fd} (T : Txt K mg w ad fd) : FnOk P w K mg base (L2N.CX P w) 3 ad.a_check_within fd.d_check_within ["what", "number", "bound"] (sp_check_within K ad) := by
  have G_TooMany___init__ := ok_TooMany___init__ (P := P) (base := base) T
  have b_TooMany___init__ := T.F_TooMany___init__.binds (ps := ["self", "what"]) fun _ _ _ _ _ _ us hl => match us, hl with | [_, _], _ => rfl
  refine DL.Fun.okN (k := 2) T.F_check_within sc_check_within (fun vs H Q E h => ?_) (fun cdv A outer s H vs Q E hr h => ?_)
  · exact h.len fun M rs M' o ⟨_, _, _, _, e, _⟩ => by rw [e]; rfl
  · have hu := hu_of hr
    refine ⟨_, (pss_one (ps_if (pt_cmpR op_gt (pv 1) (pv 2) (nomark _)) (pss_one (L2N.ps_raise rfl (L2N.takes_of rfl rfl rfl rfl) (pmk_ini T.oe_TooMany T.m_TooMany___init__.at_ (beq_iff_eq.mp T.m_TooMany___init__.fn) G_TooMany___init__ (hr.mono (by first | decide | omega)) b_TooMany___init__ rfl T.g_TooMany (pa_cons (pv 0) pa_nil)))) pss_nil)), ?_⟩
    try dsimp only [cxOf, Cx.nox, Cx.wish, List.map]
    refine h.reading fun F As M rs M' o hΦ hL B S hB hA post => ?_
    obtain ⟨s, m, b, rfl, rfl, hb, rfl, rfl⟩ := hΦ
    refine s_if S (b := decide (b < m)) (et_test (ev_op (ev_var (r := rint m) rfl) (ev_var (r := rint b) rfl) od_bool)) (fun hc => absurd (of_decide_eq_true hc) (by omega)) ?_
    intro _ F As σ H S
    exact post _ _ _ _ _ _ _ S rfl .non
def ph_cst : List MC → List Rv → List MC → Out → Prop := fun M rs M' o => ∃ t : Int, M = [] ∧ rs = [rint t] ∧ 1 ≤ t ∧ M' = [] ∧ o = .ret .non
abbrev sp_check_stock_top (K : PySem.W.Frag) (ad : Ad) : Sp := FSp K ph_cst
theorem ok_check_stock_top {P : Program} {w : World} {K : PySem.W.Frag} {mg : Str → Option Value} {base : Heap} {ad : Ad} {fd : Fd} (T : Txt K mg w ad fd) : FnOk P w K mg base (L2N.CX P w) 3 ad.a_check_stock_top fd.d_check_stock_top ["top"] (sp_check_stock_top K ad) := by
  have G_BadSize___init__ := ok_BadSize___init__ (P := P) (base := base) T
  have b_BadSize___init__ := T.F_BadSize___init__.binds (ps := ["self", "what", "place"]) fun _ _ _ _ _ _ us hl => match us, hl with | [_, _, _], _ => rfl
  refine DL.Fun.okN (k := 2) T.F_check_stock_top sc_check_stock_top (fun vs H Q E h => ?_) (fun cdv A outer s H vs Q E hr h => ?_)
  · exact h.len fun M rs M' o ⟨_, _, e, _⟩ => by rw [e]; rfl
  · have hu := hu_of hr
    refine ⟨_, (pss_one (ps_if (pt_cmpR op_lt (pv 0) (pe_int) (nomark _)) (pss_one (L2N.ps_raise rfl (L2N.takes_of rfl rfl rfl rfl) (pmk_ini T.oe_BadSize T.m_BadSize___init__.at_ (beq_iff_eq.mp T.m_BadSize___init__.fn) G_BadSize___init__ (hr.mono (by first | decide | omega)) b_BadSize___init__ rfl T.g_BadSize (pa_cons (pe_str) (pa_cons (pe_int) pa_nil))))) pss_nil)), ?_⟩
    try dsimp only [cxOf, Cx.nox, Cx.wish, List.map]
    refine h.reading fun F As M rs M' o hΦ hL B S hB hA post => ?_
    obtain ⟨t, rfl, rfl, hb, rfl, rfl⟩ := hΦ
    refine s_if S (b := decide (t < 1)) (et_test (ev_op (ev_var (r := rint t) rfl) ev_int od_bool)) (fun hc => absurd (of_decide_eq_true hc) (by omega)) ?_
    intro _ F As σ H S
    exact post _ _ _ _ _ _ _ S rfl .non
def ph_css : List MC → List Rv → List MC → Out → Prop := fun M rs M' o => ∃ s x ns t, rs = [rstr s, x, rint t] ∧ IsLst M x (ns.map D.int) ∧ Sz t ns ∧ M' = M ∧ o = .ret .non
abbrev sp_check_sizes (K : PySem.W.Frag) (ad : Ad) : Sp := FSp K ph_css
theorem ok_check_sizes {P : Program} {w : World} {K : PySem.W.Frag} {mg : Str → Option Value} {base : Heap} {ad : Ad} {fd : Fd} (T : Txt K mg w ad fd) : FnOk P w K mg base (L2N.CX P w) 3 ad.a_check_sizes fd.d_check_sizes ["what", "sizes", "top"] (sp_check_sizes K ad) := by
  have G_BadSize___init__ := ok_BadSize___init__ (P := P) (base := base) T
  have b_BadSize___init__ := T.F_BadSize___init__.binds (ps := ["self", "what", "place"]) fun _ _ _ _ _ _ us hl => match us, hl with | [_, _, _], _ => rfl
  refine DL.Fun.okN (k := 2) T.F_check_sizes sc_check_sizes (fun vs H Q E h => ?_) (fun cdv A outer s H vs Q E hr h => ?_)
  · exact h.len fun M rs M' o ⟨_, _, _, _, e, _⟩ => by rw [e]; rfl
  · have hu := hu_of hr
    refine ⟨_, (pss_cons (ps_set (i := 3) sc_check_sizes.nd rfl (by first | exact Or.inl rfl | exact Or.inr rfl) (pe_int))
  (pss_one (ps_for (passes_of rfl) rfl (pi_listK (K := K) rfl (pv 1)) (pg_name (i := 4) sc_check_sizes.nd rfl (by first | exact Or.inl rfl | exact Or.inr rfl))
  (pss_cons (ps_aug (i := 3) sc_check_sizes.nd rfl (by first | exact Or.inl rfl | exact Or.inr rfl) (pe_int) ip_add)
  (pss_one (ps_if (pt_not (pt_chain op_le op_le (pe_int) (pv 4) (pv 2))) (pss_one (L2N.ps_raise rfl (L2N.takes_of rfl rfl rfl rfl) (pmk_ini T.oe_BadSize T.m_BadSize___init__.at_ (beq_iff_eq.mp T.m_BadSize___init__.fn) G_BadSize___init__ (hr.mono (by first | decide | omega)) b_BadSize___init__ rfl T.g_BadSize (pa_cons (pv 0) (pa_cons (pv 3) pa_nil))))) pss_nil)))))), ?_⟩
    try dsimp only [cxOf, Cx.nox, Cx.wish, List.map]
    refine h.reading fun F As M rs M' o hΦ hL B S hB hA post => ?_
    obtain ⟨s, x, ns, t, rfl, hx, hs, rfl, rfl⟩ := hΦ
    refine q_set S ev_int ?_
    intro F As σ H S
    refine' s_forI S (ns := ns) (ev_var (r := x) rfl) hx (fun i M2 E => M2 = M' ∧ ∃ k u, E = [some (rstr s), some x, some (rint t), some (rint k), u]) ⟨rfl, _, _, rfl⟩ ?hq ?hb ?hd
    case hq =>
      rintro i M2 E ⟨rfl, _⟩
      exact hx
    case hd =>
      rintro M2 E ⟨rfl, k, u, rfl⟩ F As σ H S
      exact post _ _ _ _ _ _ _ S (List.take_length ..) .non
    case hb =>
      rintro B2 cv i z M2 E hi ⟨rfl, k, u, rfl⟩ F As σ H S
      have hz := hs z (List.mem_of_getElem? hi)
      try dsimp only
      refine q_aug S (a := k) (c := 1) rfl ev_int ?_
      intro F As σ H S
      try dsimp only
      refine s_if S (b := false) (et_not (b := true) (et_is (et_test (ev_chain3 (b := decide (0 ≤ z)) (c := decide (z ≤ t)) ev_int (ev_var (r := rint z) rfl) od_bool (fun _ => ev_var (r := rint t) rfl) (fun _ => od_bool))) (by rw [decide_eq_true hz.1, decide_eq_true hz.2]; rfl))) (fun hc => by cases hc) ?_
      intro _ F As σ H S
      refine s_next S ?_
      intro F As σ H S
      exact s_end S ⟨rfl, _, _, rfl⟩ (Ele.refl _)
def ph_stk (ad : Ad) : List MC → List Rv → List MC → Out → Prop := fun M rs M' o => ∃ k t x y bs ps, rs = [.cel k, rint t, x, y] ∧ M[k]? = some (.ins ad.C_Stock []) ∧ IsLst M x (bs.map D.int) ∧ IsLst M y (ps.map D.int) ∧ (1 ≤ t ∧ t ≤ 60) ∧ Sz t bs ∧ Sz t ps ∧ bs.length + ps.length ≤ 60 ∧ M' = M.set k (.ins ad.C_Stock (stkF t bs ps)) ∧ o = .ret .non
abbrev sp_Stock___init__ (K : PySem.W.Frag) (ad : Ad) : Sp := FSp K (ph_stk ad)
theorem ok_Stock___init__ {P : Program} {w : World} {K : PySem.W.Frag} {mg : Str → Option Value} {base : Heap} {ad : Ad} {fd : Fd} (T : Txt K mg w ad fd) : FnOk P w K mg base (L2N.CX P w) 4 ad.a_Stock___init__ fd.d_Stock___init__ ["self", "top", "bores", "pins"] (sp_Stock___init__ K ad) := by
  have G_check := ok_check (P := P) (base := base) T
  have b_check := T.F_check.binds (ps := ["what", "number"]) fun _ _ _ _ _ _ us hl => match us, hl with | [_, _], _ => rfl
  have G_check_sizes := ok_check_sizes (P := P) (base := base) T
  have b_check_sizes := T.F_check_sizes.binds (ps := ["what", "sizes", "top"]) fun _ _ _ _ _ _ us hl => match us, hl with | [_, _, _], _ => rfl
  have G_check_stock_top := ok_check_stock_top (P := P) (base := base) T
  have b_check_stock_top := T.F_check_stock_top.binds (ps := ["top"]) fun _ _ _ _ _ _ us hl => match us, hl with | [_], _ => rfl
  have G_check_within := ok_check_within (P := P) (base := base) T
  have b_check_within := T.F_check_within.binds (ps := ["what", "number", "bound"]) fun _ _ _ _ _ _ us hl => match us, hl with | [_, _, _], _ => rfl
  refine DL.Fun.okN (k := 3) T.F_Stock___init__ sc_Stock___init__ (fun vs H Q E h => ?_) (fun cdv A outer s H vs Q E hr h => ?_)
  · exact h.len fun M rs M' o ⟨_, _, _, _, _, _, e, _⟩ => by rw [e]; rfl
  · have hu := hu_of hr
    refine ⟨_, (pss_cons (ps_expr (pe_call G_check (hr.mono (by first | decide | omega)) rfl T.g_check T.F_check.kp b_check .nil (L2N.passes_call (L2N.takes_of rfl rfl rfl rfl) (fun _ _ _ _ h => h)) (pa_cons (pe_str) (pa_cons (pv 1) pa_nil))))
  (pss_cons (ps_expr (pe_call G_check_within (hr.mono (by first | decide | omega)) rfl T.g_check_within T.F_check_within.kp b_check_within .nil (L2N.passes_call (L2N.takes_of rfl rfl rfl rfl) (fun _ _ _ _ h => h)) (pa_cons (pe_str) (pa_cons (pe_op op_add (pe_callB (call_lenK (K := K) rfl) (by rfl) T.n_len (by decide +kernel) (pa_cons (pv 2) pa_nil)) (pe_callB (call_lenK (K := K) rfl) (by rfl) T.n_len (by decide +kernel) (pa_cons (pv 3) pa_nil))) (pa_cons (pe_glob (v := .int 60) rfl T.g_PIECES.choose_spec ⟨_, rfl⟩) pa_nil)))))
  (pss_cons (ps_expr (pe_call G_check_stock_top (hr.mono (by first | decide | omega)) rfl T.g_check_stock_top T.F_check_stock_top.kp b_check_stock_top .nil (L2N.passes_call (L2N.takes_of rfl rfl rfl rfl) (fun _ _ _ _ h => h)) (pa_cons (pv 1) pa_nil)))
  (pss_cons (ps_expr (pe_call G_check_sizes (hr.mono (by first | decide | omega)) rfl T.g_check_sizes T.F_check_sizes.kp b_check_sizes .nil (L2N.passes_call (L2N.takes_of rfl rfl rfl rfl) (fun _ _ _ _ h => h)) (pa_cons (pe_str) (pa_cons (pv 2) (pa_cons (pv 1) pa_nil)))))
  (pss_cons (ps_expr (pe_call G_check_sizes (hr.mono (by first | decide | omega)) rfl T.g_check_sizes T.F_check_sizes.kp b_check_sizes .nil (L2N.passes_call (L2N.takes_of rfl rfl rfl rfl) (fun _ _ _ _ h => h)) (pa_cons (pe_str) (pa_cons (pv 3) (pa_cons (pv 1) pa_nil)))))
  (pss_cons (ps_fldK (K := K) rfl (ps_fld (pv 0) (pv 1) rfl))
  (pss_cons (ps_fldK (K := K) rfl (ps_fld (pv 0) (pe_callB (cr_sortedK (K := K) rfl) (by rfl) T.n_sorted (by decide +kernel) (pa_cons (pv 2) pa_nil)) rfl))
  (pss_one (ps_fldK (K := K) rfl (ps_fld (pv 0) (pe_callB (cr_sortedK (K := K) rfl) (by rfl) T.n_sorted (by decide +kernel) (pa_cons (pv 3) pa_nil)) rfl)))))))))), ?_⟩
    try dsimp only [cxOf, Cx.nox, Cx.wish, List.map]
    refine h.reading fun F As M rs M' o hΦ hL B S hB hA post => ?_
    obtain ⟨k, t, x, y, bs, ps, rfl, hk, hx, hy, ht, sb, sp, hl, rfl, rfl⟩ := hΦ
    refine q_drop S (ev_cl (ea_cons ev_str (ea_cons (ev_var (r := rint t) rfl) ea_nil)) (cl_ret0 (d := .non) (by intro z; cases z) ⟨"top", 60, t, rfl, rfl, .inl ⟨rfl, rfl⟩, rfl, (if_neg (by omega)).symm⟩)) ?_
    intro F As σ H S
    refine q_drop S (ev_cl (ea_cons ev_str (ea_cons (ev_op (ev_cb (ea_cons (ev_var (r := x) rfl) ea_nil) (cd_lenI hx)) (ev_cb (ea_cons (ev_var (r := y) rfl) ea_nil) (cd_lenI hy)) od_int) (ea_cons ev_int ea_nil))) (cl_ret0 (d := .non) (by intro z; cases z) ⟨"pieces", _, 60, rfl, rfl, by omega, rfl, rfl⟩)) ?_
    intro F As σ H S
    refine q_drop S (ev_cl (ea_cons (ev_var (r := rint t) rfl) ea_nil) (cl_ret0 (d := .non) (by intro z; cases z) ⟨t, rfl, rfl, ht.1, rfl, rfl⟩)) ?_
    intro F As σ H S
    refine q_drop S (ev_cl (ea_cons ev_str (ea_cons (ev_var (r := x) rfl) (ea_cons (ev_var (r := rint t) rfl) ea_nil))) (cl_read (d := .non) ⟨"bore", x, bs, t, rfl, hx, sb, rfl, rfl⟩)) ?_
    intro F As σ H S
    refine q_drop S (ev_cl (ea_cons ev_str (ea_cons (ev_var (r := y) rfl) (ea_cons (ev_var (r := rint t) rfl) ea_nil))) (cl_read (d := .non) ⟨"pin", y, ps, t, rfl, hy, sp, rfl, rfl⟩)) ?_
    intro F As σ H S
    refine q_fldE S (ev_var (r := rint t) rfl) (ev_var (r := .cel k) rfl) hk T.cl_Stock T.na_top_number (Nat.le_of_ble_eq_true rfl) putD_nil ?_
    intro F As σ H S
    have hk1 := get_set (y := .ins ad.C_Stock [(("top_number" : Str), D.int t)]) hk
    refine q_fldE S (ev_cb (ea_cons (ev_var (r := x) rfl) ea_nil) (cd_sorted (hx.off hk))) (ev_var (r := .cel k) rfl) hk1 T.cl_Stock T.na_bore_list (Nat.le_of_ble_eq_true rfl) (by rw [putD_ne (by decide +kernel), putD_nil]) ?_
    intro F As σ H S
    rw [List.set_set] at S
    have hk2 := get_set (y := .ins ad.C_Stock [(("top_number" : Str), D.int t), ("bore_list", .lst ((sortI bs).map D.int))]) hk
    refine s_fldE S (ev_cb (ea_cons (ev_var (r := y) rfl) ea_nil) (cd_sorted (hy.off hk))) (ev_var (r := .cel k) rfl) hk2 T.cl_Stock T.na_pin_list (Nat.le_of_ble_eq_true rfl) (by rw [putD_ne (by decide +kernel), putD_ne (by decide +kernel), putD_nil]) ?_
    intro F As σ H S
    rw [List.set_set] at S
    exact post _ _ _ _ _ _ _ S (List.take_of_length_le (by rw [List.length_set]; exact Nat.le_refl _)) .non
section
variable {ad : Ad} {K : PySem.W.Frag} {ta : TA} {te : TE} {M M1 : List MC} {E : List (Option Rv)} {t : Int} {bs ps : List Int} {XX : XK}
theorem ev_newStk (ha : EvA K ta M E M1 [rint t, rints bs, rints ps]) (ht : 1 ≤ t ∧ t ≤ 60) (sb : Sz t bs) (sp : Sz t ps) (hl : bs.length + ps.length ≤ 60) : EvD K (tMake ad.C_Stock (sp_Stock___init__ K ad) [] XX ta) M E M1 (.dat (stkD ad t bs ps)) := by
  have h := cl_all (K := K) (Φ := ph_stk ad) (M1 := M1 ++ [MC.ins ad.C_Stock []]) (xs := [.cel M1.length, rint t, rints bs, rints ps]) (M2 := (M1 ++ [MC.ins ad.C_Stock []]).set M1.length (MC.ins ad.C_Stock (stkF t bs ps))) (d := .non) ⟨M1.length, t, rints bs, rints ps, bs, ps, rfl, get_mid M1 _ [], .inl rfl, .inl rfl, ht, sb, sp, hl, rfl, rfl⟩ (set_keeps (M1 := M1 ++ [MC.ins ad.C_Stock []]) (k := M1.length) (m := MC.ins ad.C_Stock (stkF t bs ps)) (fun z => z))
  rw [set_mid M1 _ [] _] at h
  exact ev_mkF ha h rfl
end
def ph_ssky (ad : Ad) : List MC → List Rv → List MC → Out → Prop := fun M rs M' o => ∃ t bs ps, M = [] ∧ rs = [.dat (stkD ad t bs ps)] ∧ (0 ≤ t ∧ t ≤ 1000) ∧ Sz t bs ∧ Sz t ps ∧ M' = [] ∧ o = .new (.lst ((skyR t bs ps).map D.int))
abbrev sp_Stock_skyline (K : PySem.W.Frag) (ad : Ad) : Sp := FSp K (ph_ssky ad)
theorem sky_perm {t : Int} {bs ps bs' ps' : List Int} (hb : bs.Perm bs') (hp : ps.Perm ps') : skyR t bs ps = skyR t bs' ps' := by
  unfold skyR wV
  exact arr_ext fun k _ => by rw [bel_perm hb, abv_perm hp]
theorem sz_sort {t : Int} {ns : List Int} (h : Sz t ns) : Sz t (sortI ns) := fun z hz => h z ((sortI_perm ns).mem_iff.mp hz)
theorem ok_Stock_skyline {P : Program} {w : World} {K : PySem.W.Frag} {mg : Str → Option Value} {base : Heap} {ad : Ad} {fd : Fd} (T : Txt K mg w ad fd) : FnOk P w K mg base CX0 2 ad.a_Stock_skyline fd.d_Stock_skyline ["self"] (sp_Stock_skyline K ad) := by
  have G_skyline_of := ok_skyline_of (P := P) (base := base) T
  have b_skyline_of := T.F_skyline_of.binds (ps := ["top", "bores", "pins"]) fun _ _ _ _ _ _ us hl => match us, hl with | [_, _, _], _ => rfl
  refine L2.Fun.ok (k := 1) T.F_Stock_skyline sc_Stock_skyline (fun vs H Q E h => ?_) (fun cdv A outer s H vs Q E hr h => ?_)
  · exact h.len fun M rs M' o ⟨_, _, _, _, e, _⟩ => by rw [e]; rfl
  · have hu := hu_of hr
    refine ⟨_, (pss_one (ps_ret (pe_call G_skyline_of (hr.mono (by first | decide | omega)) rfl T.g_skyline_of T.F_skyline_of.kp b_skyline_of .nil pass0 (pa_cons (pe_fldK (K := K) rfl (pe_fld (pv 0) rfl)) (pa_cons (pe_fldK (K := K) rfl (pe_fld (pv 0) rfl)) (pa_cons (pe_fldK (K := K) rfl (pe_fld (pv 0) rfl)) pa_nil)))))), ?_⟩
    try dsimp only [cxOf, Cx.nox, Cx.wish, List.map]
    refine h.reading fun F As M rs M' o hΦ hL B S hB hA post => ?_
    obtain ⟨t, bs, ps, rfl, rfl, ht, sb, sp, rfl, rfl⟩ := hΦ
    have v0 : ∀ {M : List MC} {E : List (Option Rv)}, E[0]? = some (some (.dat (stkD ad t bs ps))) → EvD K (tVar 0) M E M (.dat (stkD ad t bs ps)) := fun z => ev_var z
    have e := sky_perm (t := t) (sortI_perm bs) (sortI_perm ps)
    exact s_ret S (r := .cel 0) (M' := [.lst ((skyR t bs ps).map D.int)]) (ev_isM (ev_cl (ea_cons (ev_fld (v0 rfl) T.cl_Stock T.na_top_number sk_top) (ea_cons (ev_fld (v0 rfl) T.cl_Stock T.na_bore_list sk_bores) (ea_cons (ev_fld (v0 rfl) T.cl_Stock T.na_pin_list sk_pins) ea_nil))) (cl_new0 (by intro z; cases z) ⟨t, sortI bs, sortI ps, rfl, rfl, ht, sz_sort sb, sz_sort sp, rfl, rfl⟩)) (by rw [e]; rfl)) fun v F As σ H S r => post _ _ _ _ _ _ _ _ S rfl (Nat.le_refl _) rfl (by intro z; cases z) r
theorem sky_len {t : Int} {bs ps : List Int} : (skyR t bs ps).length = t.toNat := arr_len
def ph_strn (ad : Ad) : List MC → List Rv → List MC → Out → Prop := fun M rs M' o => ∃ t bs ps, M = [] ∧ rs = [.dat (stkD ad t bs ps)] ∧ (0 ≤ t ∧ t ≤ 900) ∧ Sz t bs ∧ Sz t ps ∧ M' = [] ∧ o = .ret (.int (trn ([(ps.length : Int)] ++ skyR t bs ps ++ [(bs.length : Int)])))
abbrev sp_Stock_turns (K : PySem.W.Frag) (ad : Ad) : Sp := FSp K (ph_strn ad)
theorem ok_Stock_turns {P : Program} {w : World} {K : PySem.W.Frag} {mg : Str → Option Value} {base : Heap} {ad : Ad} {fd : Fd} (T : Txt K mg w ad fd) : FnOk P w K mg base CX0 3 ad.a_Stock_turns fd.d_Stock_turns ["self"] (sp_Stock_turns K ad) := by
  have G_Stock_skyline := ok_Stock_skyline (P := P) (base := base) T
  have b_Stock_skyline := T.F_Stock_skyline.binds (ps := ["self"]) fun _ _ _ _ _ _ us hl => match us, hl with | [_], _ => rfl
  have G_turns_of := ok_turns_of (P := P) (base := base) T
  have b_turns_of := T.F_turns_of.binds (ps := ["row"]) fun _ _ _ _ _ _ us hl => match us, hl with | [_], _ => rfl
  refine L2.Fun.ok (k := 2) T.F_Stock_turns sc_Stock_turns (fun vs H Q E h => ?_) (fun cdv A outer s H vs Q E hr h => ?_)
  · exact h.len fun M rs M' o ⟨_, _, _, _, e, _⟩ => by rw [e]; rfl
  · have hu := hu_of hr
    refine ⟨_, (pss_one (ps_ret (pe_call G_turns_of (hr.mono (by first | decide | omega)) rfl T.g_turns_of T.F_turns_of.kp b_turns_of .nil pass0 (pa_cons (pe_op op_cat (pe_op op_cat (pe_lst (pa_cons (pe_callB (call_lenK (K := K) rfl) (by rfl) T.n_len (by decide +kernel) (pa_cons (pe_fldK (K := K) rfl (pe_fld (pv 0) rfl)) pa_nil)) pa_nil)) (pe_meth0 (pv 0) T.cl_Stock T.m_Stock_skyline G_Stock_skyline (hr.mono (by decide)) b_Stock_skyline .nil pass0)) (pe_lst (pa_cons (pe_callB (call_lenK (K := K) rfl) (by rfl) T.n_len (by decide +kernel) (pa_cons (pe_fldK (K := K) rfl (pe_fld (pv 0) rfl)) pa_nil)) pa_nil))) pa_nil)))), ?_⟩
    try dsimp only [cxOf, Cx.nox, Cx.wish, List.map]
    refine h.reading fun F As M rs M' o hΦ hL B S hB hA post => ?_
    obtain ⟨t, bs, ps, rfl, rfl, ht, sb, sp, rfl, rfl⟩ := hΦ
    have v0 : ∀ {M : List MC} {E : List (Option Rv)}, E[0]? = some (some (.dat (stkD ad t bs ps))) → EvD K (tVar 0) M E M (.dat (stkD ad t bs ps)) := fun z => ev_var z
    have ls := sky_len (t := t) (bs := bs) (ps := ps)
    refine s_ret S (r := rint (trn ([(ps.length : Int)] ++ skyR t bs ps ++ [(bs.length : Int)]))) (M' := []) (ev_call0 (ea_cons (ev_is (ev_op (ev_is (ev_op (ev_lst (ds := [.int (ps.length : Int)]) (ea_cons (ev_is (ev_cb (ea_cons (ev_fld (v0 rfl) T.cl_Stock T.na_pin_list sk_pins) ea_nil) (cd_lenI (.inl rfl))) (by rw [sortI_length])) ea_nil) rfl (Nat.le_of_ble_eq_true rfl)) (ev_mt (v0 rfl) sm_skyline ea_nil (cl_newF0 (by intro z; cases z) ⟨t, bs, ps, rfl, rfl, ⟨by omega, by omega⟩, sb, sp, rfl, rfl⟩ rfl)) (od_cat (.inl rfl) (.inl rfl) (by rw [List.length_map, ls]; show 1 + _ ≤ _; omega))) (rints_app [(ps.length : Int)] (skyR t bs ps))) (ev_lst (ds := [.int (bs.length : Int)]) (ea_cons (ev_is (ev_cb (ea_cons (ev_fld (v0 rfl) T.cl_Stock T.na_bore_list sk_bores) ea_nil) (cd_lenI (.inl rfl))) (by rw [sortI_length])) ea_nil) rfl (Nat.le_of_ble_eq_true rfl)) (od_cat (.inl rfl) (.inl rfl) (by rw [List.length_map, List.length_append, ls]; show 1 + _ + 1 ≤ _; omega))) (rints_app ([(ps.length : Int)] ++ skyR t bs ps) [(bs.length : Int)])) ea_nil) (by intro z; cases z) ⟨_, rfl, rfl, ⟨by rw [List.length_append]; show 1 ≤ _ + 1; omega, by rw [List.length_append, List.length_append, ls]; show 1 + _ + 1 ≤ _; omega⟩, rfl, rfl⟩) fun v F As σ H S r => post _ _ _ _ _ _ _ S rfl r
/-! ### the law's skyline -/
def ph_lsky : List MC → List Rv → List MC → Out → Prop := fun M rs M' o => ∃ t bs ps, M = [] ∧ rs = [rint t, rints bs, rints ps] ∧ Arg t bs ps ∧ M' = [] ∧ o = .ret (.lst ((skyR t bs ps).map D.int))
abbrev sp__law_sky (K : PySem.W.Frag) : Sp := FSp K ph_lsky
theorem ev_lcR2AI {K : PySem.W.Frag} {te : TE} {M M1 : List MC} {E : List (Option Rv)} {t : TA} {j : Nat} {a n : Int} (f : Nat → Int) (ha : EvA K t M E M1 [rint a, rint n]) (hn : -8000000 ≤ n ∧ n ≤ 8000000 ∧ -8000000 ≤ a ∧ a ≤ 8000000) (he : ∀ i : Nat, a + (i : Int) < n → EvD K te M1 (E.set j (some (rint (a + (i : Int))))) M1 (rint (f i))) :
    EvD K (tLc (iRng2 t) (gName j) tYes te [j]) M E M1 (rints (arr (n - a).toNat f)) := by
  have h := ev_lcR2 (tt := tYes) (te := te) (j := j) (fun _ => M1) (fun _ => true) (fun i => .int (f i)) ha hn rfl fun i hi => LcT.plain (he i hi)
  rw [givD_all] at h
  have e : ((List.range (n - a).toNat).map fun i => D.int (f i)) = (arr (n - a).toNat f).map D.int := by unfold arr; rw [List.map_map]; rfl
  rwa [e] at h
theorem ok__law_sky {P : Program} {w : World} {K : PySem.W.Frag} {mg : Str → Option Value} {base : Heap} {ad : Ad} {fd : Fd} (T : Txt K mg w ad fd) : FnOk P w K mg base CX0 2 ad.a__law_sky fd.d__law_sky ["top", "bores", "pins"] (sp__law_sky K) := by
  have G__law_above := ok__law_above (P := P) (base := base) T
  have b__law_above := T.F__law_above.binds (ps := ["pins", "e"]) fun _ _ _ _ _ _ us hl => match us, hl with | [_, _], _ => rfl
  have G__law_below := ok__law_below (P := P) (base := base) T
  have b__law_below := T.F__law_below.binds (ps := ["bores", "e"]) fun _ _ _ _ _ _ us hl => match us, hl with | [_, _], _ => rfl
  refine L2.Fun.ok (k := 1) T.F__law_sky sc__law_sky (fun vs H Q E h => ?_) (fun cdv A outer s H vs Q E hr h => ?_)
  · exact h.len fun M rs M' o ⟨_, _, _, _, e, _⟩ => by rw [e]; rfl
  · refine ⟨_, (pss_one (ps_ret (pe_lc rfl sc__law_sky.nd (pi_range2 (by rfl) T.n_range (pa_cons (pe_int) (pa_cons (pe_op op_add (pv 0) (pe_int)) pa_nil))) (blkOk_by (own := [("e", 3)]) (N := N__law_sky) (sc := defScope s__law_sky) (by decide +kernel)) (fun _ _ _ _ _ => (pg_name (i := 3) sc__law_sky.nd rfl (by first | exact Or.inl rfl | exact Or.inr rfl))) (fun _ _ _ _ _ => pts_nil) (fun _ _ _ _ _ => (pe_op op_add (pe_call G__law_below (hr.mono (by first | decide | omega)) rfl T.g__law_below T.F__law_below.kp b__law_below .nil pass0 (pa_cons (pv 1) (pa_cons (pv 3) pa_nil))) (pe_call G__law_above (hr.mono (by first | decide | omega)) rfl T.g__law_above T.F__law_above.kp b__law_above .nil pass0 (pa_cons (pv 2) (pa_cons (pv 3) pa_nil)))))))), ?_⟩
    try dsimp only [cxOf, Cx.nox, Cx.wish, List.map]
    refine h.reading fun F As M rs M' o hΦ hL B S hB hA post => ?_
    obtain ⟨t, bs, ps, rfl, rfl, ha, rfl, rfl⟩ := hΦ
    obtain ⟨t0, t1, lb, lp⟩ := id ha
    refine s_ret S (r := rints (skyR t bs ps)) (M' := []) (ev_is (ev_lcR2AI (a := 1) (n := t + 1) (fun i => wV bs ps (1 + (i : Int))) (ea_cons ev_int (ea_cons (ev_op (ev_var (r := rint t) rfl) ev_int od_int) ea_nil)) ⟨by omega, by omega, by omega, by omega⟩ fun i hi => ev_op (ev_call0 (ea_cons (ev_var (r := rints bs) rfl) (ea_cons (ev_var (r := rint (1 + (i : Int))) rfl) ea_nil)) (by intro z; cases z) ⟨bs, _, rfl, rfl, lb, rfl, rfl⟩) (ev_call0 (ea_cons (ev_var (r := rints ps) rfl) (ea_cons (ev_var (r := rint (1 + (i : Int))) rfl) ea_nil)) (by intro z; cases z) ⟨ps, _, rfl, rfl, lp, rfl, rfl⟩) od_int) (by
      rw [show (t + 1 - 1).toNat = t.toNat by omega]
      unfold skyR
      rw [arr_ext fun k _ => by rw [show (1 : Int) + (k : Int) = (k : Int) + 1 by omega]])) fun v F As σ H S r => post _ _ _ _ _ _ _ S rfl r
def ph_bent : List MC → List Rv → List MC → Out → Prop := fun M rs M' o => ∃ xs q p, M = [] ∧ rs = [rints xs, rint q, rint p] ∧ xs.length ≤ 900 ∧ M' = [] ∧ o = .ret (.int (trn ([p] ++ xs ++ [q])))
abbrev sp__law_bent (K : PySem.W.Frag) : Sp := FSp K ph_bent
theorem ok__law_bent {P : Program} {w : World} {K : PySem.W.Frag} {mg : Str → Option Value} {base : Heap} {ad : Ad} {fd : Fd} (T : Txt K mg w ad fd) : FnOk P w K mg base CX0 2 ad.a__law_bent fd.d__law_bent ["row", "q", "p"] (sp__law_bent K) := by
  have G__law_turns := ok__law_turns (P := P) (base := base) T
  have b__law_turns := T.F__law_turns.binds (ps := ["row"]) fun _ _ _ _ _ _ us hl => match us, hl with | [_], _ => rfl
  refine L2.Fun.ok (k := 1) T.F__law_bent sc__law_bent (fun vs H Q E h => ?_) (fun cdv A outer s H vs Q E hr h => ?_)
  · exact h.len fun M rs M' o ⟨_, _, _, _, e, _⟩ => by rw [e]; rfl
  · refine ⟨_, (pss_one (ps_ret (pe_call G__law_turns (hr.mono (by first | decide | omega)) rfl T.g__law_turns T.F__law_turns.kp b__law_turns .nil pass0 (pa_cons (pe_op op_cat (pe_op op_cat (pe_lst (pa_cons (pv 2) pa_nil)) (pe_callTy (call_listK (K := K) rfl) (by rfl) T.n_list (by decide +kernel) (pa_cons (pv 0) pa_nil))) (pe_lst (pa_cons (pv 1) pa_nil))) pa_nil)))), ?_⟩
    try dsimp only [cxOf, Cx.nox, Cx.wish, List.map]
    refine h.reading fun F As M rs M' o hΦ hL B S hB hA post => ?_
    obtain ⟨xs, q, p, rfl, rfl, hl, rfl, rfl⟩ := hΦ
    refine s_ret S (r := rint (trn ([p] ++ xs ++ [q]))) (M' := []) (ev_call0 (ea_cons (ev_is (ev_op (ev_is (ev_op (ev_lst (ds := [.int p]) (ea_cons (ev_var (r := rint p) rfl) ea_nil) rfl (Nat.le_of_ble_eq_true rfl)) (ev_cb (ea_cons (ev_var (r := rints xs) rfl) ea_nil) (cd_list (.inl rfl))) (od_cat (.inl rfl) (.inl rfl) (by rw [List.length_map]; show 1 + _ ≤ _; omega))) (rints_app [p] xs)) (ev_lst (ds := [.int q]) (ea_cons (ev_var (r := rint q) rfl) ea_nil) rfl (Nat.le_of_ble_eq_true rfl)) (od_cat (.inl rfl) (.inl rfl) (by rw [List.length_map, List.length_append]; show 1 + _ + 1 ≤ _; omega))) (rints_app ([p] ++ xs) [q])) ea_nil) (by intro z; cases z) ⟨_, rfl, rfl, ⟨by rw [List.length_append]; show 1 ≤ _ + 1; omega, by rw [List.length_append, List.length_append]; show 1 + _ + 1 ≤ _; omega⟩, rfl, rfl⟩) fun v F As σ H S r => post _ _ _ _ _ _ _ S rfl r
end K09
set_option Elab.async false
set_option linter.all false
set_option maxRecDepth 100000
set_option maxHeartbeats 4000000
namespace K09
open PySem L2 DL
/-! ### the steps: one rule an expression, by its reading's head -/
local macro_rules | `(tactic| wtm_at "ev") => `(tactic| first
  | exact ev_var rfl
  | exact ev_int
  | exact ev_non
  | exact ev_bl
  | exact ev_str
  | exact ea_nil
  | with_reducible apply ea_cons
  | ((with_reducible refine' ev_isi ?a ?b ?c); (case' a => repeat' wtm_at "ev"); (case' b => exact rfl); (case' c => exact rfl))
  | with_reducible apply ev_cb
  | with_reducible apply ev_op
  | with_reducible apply ev_un
  | with_reducible apply et_test
  | with_reducible apply et_B
  | with_reducible apply et_not
  | with_reducible apply ev_isN
  | with_reducible apply ev_notN
  | with_reducible apply ev_notV
  | with_reducible apply et_and
  | with_reducible apply et_or
  | with_reducible apply ev_andV
  | with_reducible apply ev_orV
  | with_reducible apply ev_ifI
  | with_reducible apply ev_ifD
  | ((with_reducible refine' ev_dnotin ?a ?b ?c ?d); (case' a => repeat' wtm_at "ev"); (case' b => repeat' wtm_at "ev"); (case' c => exact rfl); (case' d => first | exact .inl rfl | exact .inr ⟨_, rfl, rfl⟩))
  | ((with_reducible refine' ev_din ?a ?b ?c ?d); (case' a => repeat' wtm_at "ev"); (case' b => repeat' wtm_at "ev"); (case' c => exact rfl); (case' d => first | exact .inl rfl | exact .inr ⟨_, rfl, rfl⟩))
  | with_reducible apply ev_lcLAI
  | with_reducible apply ev_lcLII
  | with_reducible apply ev_lcLA
  | with_reducible apply ev_lcLI
  | with_reducible apply ev_lcRAI
  | with_reducible apply ev_lcRI
  | with_reducible apply ev_lcRA
  | with_reducible apply ev_lcR
  | exact et_yes
  | with_reducible intro _
  | exact od_int
  | exact od_bool
  | exact od_eqI
  | exact od_neI
  | exact od_eqS
  | exact od_neS
  | exact ud_neg
  | exact cd_abs
  | exact cd_max2
  | exact cd_min2
  | exact cd_int
  | exact cd_intB
  | exact cd_lenScr
  | exact cd_lenT
  | exact cd_lenI (.inl rfl)
  | exact cd_lenI (.inr ⟨_, rfl, rfl⟩)
  | exact cd_len (.inl rfl)
  | exact cd_len (.inr ⟨_, rfl, rfl⟩)
  | exact cd_lenD (.inl rfl)
  | exact cd_lenD (.inr ⟨_, rfl, rfl⟩)
  | exact cd_sum (.inl rfl)
  | exact cd_sorted (.inl rfl)
  | exact cd_list (.inl rfl)
  | exact cd_listT
  | exact eo_none
  | with_reducible apply eo_some
  | with_reducible apply ev_sliceScr
  | refine' ev_sliceI ?_ ?_ ?_ (.inl rfl)
  | with_reducible apply od_intC
  | with_reducible apply od_ixScr
  | refine' od_ixI (.inl rfl) ?_ ?_
  | refine' od_ixI (.inr ⟨_, rfl, rfl⟩) ?_ ?_
  | exact od_ixT rfl
  | exact od_inI (.inl rfl)
  | exact od_notinI (.inl rfl)
  | refine' od_cat (.inl rfl) (.inl rfl) ?_
  | ((with_reducible refine' ev_tup ?h ?r ?l); (case' h => repeat' wtm_at "ev"); (case' r => exact rfl); (case' l => exact Nat.le_of_ble_eq_true rfl))
  | (refine (show CMul _ _ from .inl ⟨?_, ?_⟩) <;> decide)
  | (refine (show CMul _ _ from .inr ⟨?_, ?_⟩) <;> decide)
  | (refine (show (_ : Prop) from ?_); assumption)
  | (refine (show CDiv _ _ from ⟨?_, ?_⟩) <;> omega)
  | (refine (show CPow _ _ from ⟨?_, ?_, ?_⟩) <;> decide)
  | omega
  | (simp only [Pz.len]; done)
  | (simp only [Pz.len, List.length_map, List.length_append, List.length_range, List.length_set, List.length_reverse]; omega))
/-! a statement's step: its values are reckoned, what is left is the way on -/
local macro_rules | `(tactic| wtm_at "st") => `(tactic| first
  | (refine' q_set (by assumption) ?h ?k; (case' h => repeat' wtm_at "ev"); (case' k => (intro _ _ _ _ _; try dsimp only)))
  | (refine' s_set (by assumption) ?h ?k; (case' h => repeat' wtm_at "ev"); (case' k => (intro _ _ _ _ _; try dsimp only)))
  | (refine' q_augS (by assumption) ?h1 ?h2 ?h3 ?r1 ?r2 ?s1 ?s2 ?k; (case' h1 => repeat' wtm_at "ev"); (case' h2 => repeat' wtm_at "ev"); (case' h3 => repeat' wtm_at "ev"); (case' r1 => exact rfl); (case' r2 => exact rfl); (case' s1 => try wtm_at "ev"); (case' s2 => try wtm_at "ev"); (case' k => (intro _ _ _ _ _; try dsimp only)))
  | (refine' s_augS (by assumption) ?h1 ?h2 ?h3 ?r1 ?r2 ?s1 ?s2 ?k; (case' h1 => repeat' wtm_at "ev"); (case' h2 => repeat' wtm_at "ev"); (case' h3 => repeat' wtm_at "ev"); (case' r1 => exact rfl); (case' r2 => exact rfl); (case' s1 => try wtm_at "ev"); (case' s2 => try wtm_at "ev"); (case' k => (intro _ _ _ _ _; try dsimp only)))
  | (refine' q_setLI (by assumption) ?h ?h1 ?h2 ?r1 ?s1 ?s2 ?k; (case' h => repeat' wtm_at "ev"); (case' h1 => repeat' wtm_at "ev"); (case' h2 => repeat' wtm_at "ev"); (case' r1 => exact rfl); (case' s1 => try wtm_at "ev"); (case' s2 => try wtm_at "ev"); (case' k => (intro _ _ _ _ _; try dsimp only)))
  | (refine' q_setL (by assumption) ?h ?h1 ?h2 ?r1 ?s1 ?s2 ?k; (case' h => repeat' wtm_at "ev"); (case' h1 => repeat' wtm_at "ev"); (case' h2 => repeat' wtm_at "ev"); (case' r1 => exact rfl); (case' s1 => try wtm_at "ev"); (case' s2 => try wtm_at "ev"); (case' k => (intro _ _ _ _ _; try dsimp only)))
  | (refine' s_setLI (by assumption) ?h ?h1 ?h2 ?r1 ?s1 ?s2 ?k; (case' h => repeat' wtm_at "ev"); (case' h1 => repeat' wtm_at "ev"); (case' h2 => repeat' wtm_at "ev"); (case' r1 => exact rfl); (case' s1 => try wtm_at "ev"); (case' s2 => try wtm_at "ev"); (case' k => (intro _ _ _ _ _; try dsimp only)))
  | (refine' s_setL (by assumption) ?h ?h1 ?h2 ?r1 ?s1 ?s2 ?k; (case' h => repeat' wtm_at "ev"); (case' h1 => repeat' wtm_at "ev"); (case' h2 => repeat' wtm_at "ev"); (case' r1 => exact rfl); (case' s1 => try wtm_at "ev"); (case' s2 => try wtm_at "ev"); (case' k => (intro _ _ _ _ _; try dsimp only)))
  | (refine' q_appI (by assumption) ?h1 ?h ?r1 ?r2 ?s ?k; (case' h1 => repeat' wtm_at "ev"); (case' h => repeat' wtm_at "ev"); (case' r1 => exact rfl); (case' r2 => exact rfl); (case' s => try wtm_at "ev"); (case' k => (intro _ _ _ _ _; try dsimp only)))
  | (refine' q_app (by assumption) ?h1 ?h ?r1 ?r2 ?s ?k; (case' h1 => repeat' wtm_at "ev"); (case' h => repeat' wtm_at "ev"); (case' r1 => exact rfl); (case' r2 => exact rfl); (case' s => try wtm_at "ev"); (case' k => (intro _ _ _ _ _; try dsimp only)))
  | (refine' s_appI (by assumption) ?h1 ?h ?r1 ?r2 ?s ?k; (case' h1 => repeat' wtm_at "ev"); (case' h => repeat' wtm_at "ev"); (case' r1 => exact rfl); (case' r2 => exact rfl); (case' s => try wtm_at "ev"); (case' k => (intro _ _ _ _ _; try dsimp only)))
  | (refine' s_app (by assumption) ?h1 ?h ?r1 ?r2 ?s ?k; (case' h1 => repeat' wtm_at "ev"); (case' h => repeat' wtm_at "ev"); (case' r1 => exact rfl); (case' r2 => exact rfl); (case' s => try wtm_at "ev"); (case' k => (intro _ _ _ _ _; try dsimp only)))
  | (refine' q_dput (by assumption) ?h ?h1 ?h2 ?r1 ?r2 ?s ?k; (case' h => repeat' wtm_at "ev"); (case' h1 => repeat' wtm_at "ev"); (case' h2 => repeat' wtm_at "ev"); (case' r1 => exact rfl); (case' r2 => exact rfl); (case' s => try wtm_at "ev"); (case' k => (intro _ _ _ _ _; try dsimp only)))
  | (refine' s_dput (by assumption) ?h ?h1 ?h2 ?r1 ?r2 ?s ?k; (case' h => repeat' wtm_at "ev"); (case' h1 => repeat' wtm_at "ev"); (case' h2 => repeat' wtm_at "ev"); (case' r1 => exact rfl); (case' r2 => exact rfl); (case' s => try wtm_at "ev"); (case' k => (intro _ _ _ _ _; try dsimp only)))
  | (refine' q_tup2 (by assumption) ?h ?k; (case' h => repeat' wtm_at "ev"); (case' k => (intro _ _ _ _ _; try dsimp only)))
  | (refine' q_drop (by assumption) ?h ?k; (case' h => repeat' wtm_at "ev"); (case' k => (intro _ _ _ _ _; try dsimp only)))
  | (refine' q_if (by assumption) ?h ?k1 ?k2; (case' h => repeat' wtm_at "ev"))
  | (refine' s_if (by assumption) ?h ?k1 ?k2; (case' h => repeat' wtm_at "ev"))
  | (refine' s_ret (by assumption) ?h ?k; (case' h => repeat' wtm_at "ev"); (case' k => (intro _ _ _ _ _ _ _; try dsimp only)))
  | (refine' q_ret (by assumption) ?h ?k; (case' h => repeat' wtm_at "ev"); (case' k => (intro _ _ _ _ _ _ _; try dsimp only)))
  | ((with_reducible refine' s_next (by assumption) ?k); (case' k => (intro _ _ _ _ _; try dsimp only)))
  | (with_reducible refine q_next ?_))

theorem snocInd {α : Type} {P : List α → Prop} (nil : P []) (snoc : ∀ l x, P l → P (l ++ [x])) (l : List α) : P l := by
  have h : ∀ l : List α, P l.reverse := fun l => by
    induction l with
    | nil => exact nil
    | cons x l ih => rw [List.reverse_cons]; exact snoc _ x ih
  have := h l.reverse
  rwa [List.reverse_reverse] at this
theorem od_notinPM {K : PySem.W.Frag} {M : List MC} {y : Rv} {p : Int × Int} {cs : List (Int × Int)} (h : IsLst M y (cs.map pairD)) : OpD K (rNotInD K) M (.dat (pairD p)) y M (rbl (!decide (p ∈ cs))) := OpD.pure fun B F H As σ E v w S r1 r2 Q q => by
  obtain ⟨a, vs, rfl, ha, pa⟩ := h.view S r2
  have ra : R K H (pairsD cs) (.ref a) := R.lst' ha (pa.imp fun _ _ z => R.mono z S.ex)
  have rp : R K H (pairD p) v := R.mono r1 S.ex
  exact ⟨pairP p, cs.map pairP, (PyOf.pair p).dp (Evl.Ex.refl H) rp, (PyOf.pairs cs).dp (Evl.Ex.refl H) ra, rfl, pairs_shaped cs, by rw [any_pair]; exact q _ (.bl _)⟩
/-! ### sorted rows -/
theorem sortI_id {ns : List Int} (h : ns.Pairwise (· ≤ ·)) : sortI ns = ns := by
  exact ((sortI_perm ns).eq_of_pairwise (fun a b _ _ h1 h2 => Int.le_antisymm h1 h2) (sortI_pair ns) h)
theorem sortU_sort {ns : List Int} : sortU (sortI ns) = sortU ns := lt_unique (sortU_pair _) (sortU_pair _) fun k => by rw [sortU_mem, sortU_mem, mem_sortI]
theorem rem_eq {e : Int} {ns : List Int} : remI e ns = ns.take (idxI e ns) ++ ns.drop (idxI e ns + 1) := by
  unfold remI
  rw [List.eraseIdx_eq_take_drop_succ]
theorem rem_pair {e : Int} {ns : List Int} (h : ns.Pairwise (· ≤ ·)) : (remI e ns).Pairwise (· ≤ ·) := h.sublist (List.eraseIdx_sublist _ _)
theorem rem_mem {e x : Int} {ns : List Int} (h : x ∈ remI e ns) : x ∈ ns := List.mem_of_mem_eraseIdx h
theorem rem_len {e : Int} {ns : List Int} (h : e ∈ ns) : (remI e ns).length + 1 = ns.length := by
  have := (remI_perm h).length_eq
  rw [List.length_cons] at this
  exact this
theorem rem_sz {t e : Int} {ns : List Int} (h : Sz t ns) : Sz t (remI e ns) := fun z hz => h z (rem_mem hz)
/-! ### the pairs that a stock can give -/
def goL (bs ps : List Int) : List (Int × Int) := ((sortU ps).map fun p => ((sortU bs).filter fun b => decide (p ≤ b)).map fun b => (p, b)).flatten
theorem goL_mem {bs ps : List Int} {q : Int × Int} : q ∈ goL bs ps ↔ q.1 ∈ ps ∧ q.2 ∈ bs ∧ q.1 ≤ q.2 := by
  unfold goL
  simp only [List.mem_flatten, List.mem_map]
  constructor
  · rintro ⟨l, ⟨p, hp, rfl⟩, h⟩
    obtain ⟨b, hb, rfl⟩ := List.mem_map.mp h
    obtain ⟨h1, h2⟩ := List.mem_filter.mp hb
    exact ⟨(sortU_mem _).mp hp, (sortU_mem _).mp h1, of_decide_eq_true h2⟩
  · rintro ⟨h1, h2, h3⟩
    exact ⟨_, ⟨q.1, (sortU_mem _).mpr h1, rfl⟩, List.mem_map.mpr ⟨q.2, List.mem_filter.mpr ⟨(sortU_mem _).mpr h2, decide_eq_true h3⟩, rfl⟩⟩
theorem goL_lc {bs ps : List Int} : lc2D (sortU ps) (sortU bs) (fun p b => decide (p ≤ b)) (fun p b => pairD (p, b)) = (goL bs ps).map pairD := by
  unfold lc2D goL
  rw [List.map_flatten, List.map_map]
  congr 1
  refine List.map_congr_left fun p _ => ?_
  show _ = List.map pairD (List.map (fun b => (p, b)) _)
  rw [List.map_map]; rfl
/-- the first of each -/
def fu (us : List Int) : List Int := us.foldl (fun acc b => if b ∈ acc then acc else acc ++ [b]) []
theorem fu_snoc (us : List Int) (x : Int) : fu (us ++ [x]) = if x ∈ fu us then fu us else fu us ++ [x] := by
  unfold fu
  rw [List.foldl_append]; rfl
theorem fu_mem {k : Int} {us : List Int} : k ∈ fu us ↔ k ∈ us := by
  induction us using snocInd with
  | nil => exact Iff.rfl
  | snoc us x ih =>
    rw [fu_snoc]
    split
    · rename_i c
      rw [List.mem_append, List.mem_singleton, ← ih]
      exact ⟨.inl, fun h => h.elim id fun e => e ▸ c⟩
    · rw [List.mem_append, List.mem_append, ih]
theorem fu_pair {us : List Int} (h : us.Pairwise (· ≤ ·)) : (fu us).Pairwise (· < ·) := by
  induction us using snocInd with
  | nil => exact List.Pairwise.nil
  | snoc us x ih =>
    obtain ⟨h1, _, h3⟩ := List.pairwise_append.mp h
    rw [fu_snoc]
    split
    · exact ih h1
    · rename_i c
      refine List.pairwise_append.mpr ⟨ih h1, by simp, fun a ha b hb => ?_⟩
      rw [List.mem_singleton.mp hb]
      have hle := h3 a (fu_mem.mp ha) x (by simp)
      have hne : a ≠ x := fun e => c (e ▸ ha)
      omega
theorem fu_sort {us : List Int} : fu (sortI us) = sortU us := lt_unique (fu_pair (sortI_pair us)) (sortU_pair us) fun k => by rw [fu_mem, sortU_mem, mem_sortI]
/-- one pair more, if it goes and is not there -/
def addG (p : Int) (F : List (Int × Int)) (b : Int) : List (Int × Int) := if p ≤ b ∧ (p, b) ∉ F then F ++ [(p, b)] else F
def rowG (us : List Int) (F : List (Int × Int)) (p : Int) : List (Int × Int) := us.foldl (addG p) F
def goN (us vs : List Int) : List (Int × Int) := vs.foldl (rowG us) []
theorem rowG_snoc (us : List Int) (x : Int) (F : List (Int × Int)) (p : Int) : rowG (us ++ [x]) F p = addG p (rowG us F p) x := by
  unfold rowG
  rw [List.foldl_append]; rfl
theorem rowG_has {p : Int} {F : List (Int × Int)} {us : List Int} (h : ∀ b ∈ us, p ≤ b → (p, b) ∈ F) : rowG us F p = F := by
  induction us using snocInd with
  | nil => rfl
  | snoc us x ih =>
    rw [rowG_snoc, ih fun b hb => h b (List.mem_append_left _ hb)]
    unfold addG
    rw [if_neg fun z => z.2 (h x (by simp) z.1)]
theorem rowG_new {p : Int} {F : List (Int × Int)} {us : List Int} (h : ∀ q ∈ F, q.1 ≠ p) : rowG us F p = F ++ ((fu us).filter fun b => decide (p ≤ b)).map fun b => (p, b) := by
  induction us using snocInd with
  | nil => show F = F ++ []; rw [List.append_nil]
  | snoc us x ih =>
    rw [rowG_snoc, ih, fu_snoc]
    have hm : (p, x) ∈ F ++ ((fu us).filter fun b => decide (p ≤ b)).map (fun b => (p, b)) ↔ x ∈ fu us ∧ p ≤ x := by
      rw [List.mem_append]
      constructor
      · rintro (z | z)
        · exact absurd rfl (h _ z)
        · obtain ⟨b, hb, e⟩ := List.mem_map.mp z
          cases e
          obtain ⟨h1, h2⟩ := List.mem_filter.mp hb
          exact ⟨h1, of_decide_eq_true h2⟩
      · rintro ⟨h1, h2⟩
        exact .inr (List.mem_map.mpr ⟨x, List.mem_filter.mpr ⟨h1, decide_eq_true h2⟩, rfl⟩)
    unfold addG
    by_cases c : p ≤ x
    · by_cases d : x ∈ fu us
      · rw [if_neg fun z => z.2 (hm.mpr ⟨d, c⟩), if_pos d]
      · rw [if_pos ⟨c, fun z => d (hm.mp z).1⟩, if_neg d, List.filter_append, List.map_append, ← List.append_assoc]
        congr 1
        rw [List.filter_cons, if_pos (decide_eq_true c)]; rfl
    · rw [if_neg fun z => c z.1]
      split
      · rfl
      · rw [List.filter_append, List.filter_cons, if_neg (by rw [decide_eq_true_eq]; exact c), List.filter_nil, List.append_nil]
def blkG (us : List Int) (p : Int) : List (Int × Int) := ((fu us).filter fun b => decide (p ≤ b)).map fun b => (p, b)
theorem goN_eq (us vs : List Int) : goN us vs = ((fu vs).map (blkG us)).flatten := by
  induction vs using snocInd with
  | nil => rfl
  | snoc vs x ih =>
    have e : goN us (vs ++ [x]) = rowG us (goN us vs) x := by
      unfold goN
      rw [List.foldl_append]; rfl
    rw [e, ih, fu_snoc]
    split
    · rename_i c
      refine rowG_has fun b hb hp => ?_
      rw [List.mem_flatten]
      exact ⟨blkG us x, List.mem_map.mpr ⟨x, c, rfl⟩, List.mem_map.mpr ⟨b, List.mem_filter.mpr ⟨fu_mem.mpr hb, decide_eq_true hp⟩, rfl⟩⟩
    · rename_i c
      rw [rowG_new fun q hq z => ?_]
      · rw [List.map_append, List.flatten_append]
        show _ ++ blkG us x = _ ++ (blkG us x ++ [])
        rw [List.append_nil]
      · obtain ⟨l, hl, h⟩ := List.mem_flatten.mp hq
        obtain ⟨p, hp, rfl⟩ := List.mem_map.mp hl
        obtain ⟨b, _, rfl⟩ := List.mem_map.mp h
        exact c (z ▸ hp)
theorem goN_sort {bs ps : List Int} : goN (sortI bs) (sortI ps) = goL bs ps := by
  rw [goN_eq, fu_sort]
  unfold goL
  congr 1
  refine List.map_congr_left fun p _ => ?_
  unfold blkG
  rw [fu_sort]
theorem addG_len {p b : Int} {F : List (Int × Int)} : (addG p F b).length ≤ F.length + 1 := by
  unfold addG
  split
  · rw [List.length_append]; exact Nat.le_refl _
  · omega
theorem rowG_len {p : Int} {F : List (Int × Int)} {us : List Int} : (rowG us F p).length ≤ F.length + us.length := by
  induction us using snocInd with
  | nil => exact Nat.le_refl _
  | snoc us x ih =>
    rw [rowG_snoc, List.length_append, List.length_singleton]
    have := addG_len (p := p) (b := x) (F := rowG us F p)
    omega
theorem goN_len {us vs : List Int} : (goN us vs).length ≤ vs.length * us.length := by
  induction vs using snocInd with
  | nil => exact Nat.zero_le _
  | snoc vs x ih =>
    have e : goN us (vs ++ [x]) = rowG us (goN us vs) x := by
      unfold goN
      rw [List.foldl_append]; rfl
    rw [e, List.length_append, List.length_singleton, Nat.succ_mul]
    have := rowG_len (p := x) (F := goN us vs) (us := us)
    omega
theorem goL_len {bs ps : List Int} : (goL bs ps).length ≤ ps.length * bs.length := by
  have h := goN_len (us := sortI bs) (vs := sortI ps)
  rwa [goN_sort, sortI_length, sortI_length] at h
/-! ### the stock's defs -/
def ph_wo : List MC → List Rv → List MC → Out → Prop := fun M rs M' o => ∃ ns e, M = [] ∧ rs = [rints ns, rint e] ∧ e ∈ ns ∧ ns.length ≤ 1000 ∧ M' = [] ∧ o = .ret (.lst ((remI e ns).map D.int))
abbrev sp_without (K : PySem.W.Frag) : Sp := FSp K ph_wo
theorem ok_without {P : Program} {w : World} {K : PySem.W.Frag} {mg : Str → Option Value} {base : Heap} {ad : Ad} {fd : Fd} (T : Txt K mg w ad fd) : FnOk P w K mg base CX0 1 ad.a_without fd.d_without ["sizes", "size"] (sp_without K) := by
  refine L2.Fun.ok (k := 0) T.F_without sc_without (fun vs H Q E h => ?_) (fun cdv A outer s H vs Q E hr h => ?_)
  · exact h.len fun M rs M' o ⟨_, _, _, e, _⟩ => by rw [e]; rfl
  · refine ⟨_, (pss_cons (ps_set (i := 2) sc_without.nd rfl (by first | exact Or.inl rfl | exact Or.inr rfl) (pe_bmK (K := K) (id := "list.index") rfl (pe_bm PySem.F.plainAttrs_list PySem.F.slot_list_index PySem.F.type_list_index mt_index (pv 0) (pa_cons (pv 1) pa_nil))))
  (pss_one (ps_ret (pe_op op_cat (pe_slice (sl_listK (K := K) rfl) (pv 0) po_none (po_some (pv 2))) (pe_slice (sl_listK (K := K) rfl) (pv 0) (po_some (pe_op op_add (pv 2) (pe_int))) po_none))))), ?_⟩
    try dsimp only [cxOf, Cx.nox, Cx.wish, List.map]
    refine h.reading fun F As M rs M' o hΦ hL B S hB hA post => ?_
    obtain ⟨ns, e, rfl, rfl, hm, hl, rfl, rfl⟩ := hΦ
    obtain ⟨i1, i2, i3⟩ := idxI_at hm
    refine q_set S (r := rint (idxI e ns : Nat)) (M' := []) (ev_idxI (ev_var (r := rints ns) rfl) (ev_var (r := rint e) rfl) (.inl rfl) (.inl rfl) hm) ?_
    intro F As σ H S
    try simp only [List.set_cons_zero, List.set_cons_succ] at S
    refine s_ret S (r := rints (remI e ns)) (M' := []) (ev_is (ev_op (ev_sliceI (ev_var (r := rints ns) rfl) eo_none (eo_some (ev_var (r := rint (idxI e ns : Nat)) rfl)) (.inl rfl)) (ev_sliceI (ev_var (r := rints ns) rfl) (eo_some (ev_is (ev_op (ev_var (r := rint (idxI e ns : Nat)) rfl) ev_int od_int) (show _ = rint ((idxI e ns + 1 : Nat) : Int) from rfl))) eo_none (.inl rfl)) (od_cat (.inl rfl) (.inl rfl) ?wl)) ?we) fun v F As σ H S r => post _ _ _ _ _ _ _ S rfl r
    case wl =>
      have a := cutD_len ns none (some ((idxI e ns : Nat) : Int))
      have b := cutD_len ns (some ((idxI e ns + 1 : Nat) : Int)) none
      rw [List.length_map, List.length_map]
      omega
    case we =>
      rw [rints_cat, cut_take (by omega), cut_drop (by omega), ← rem_eq]
def ph_sbores (ad : Ad) : List MC → List Rv → List MC → Out → Prop := fun M rs M' o => ∃ t bs ps, M = [] ∧ rs = [.dat (stkD ad t bs ps)] ∧ M' = [] ∧ o = .new (.lst ((sortI bs).map D.int))
abbrev sp_Stock_bores (K : PySem.W.Frag) (ad : Ad) : Sp := FSp K (ph_sbores ad)
theorem ok_Stock_bores {P : Program} {w : World} {K : PySem.W.Frag} {mg : Str → Option Value} {base : Heap} {ad : Ad} {fd : Fd} (T : Txt K mg w ad fd) : FnOk P w K mg base CX0 1 ad.a_Stock_bores fd.d_Stock_bores ["self"] (sp_Stock_bores K ad) := by
  refine L2.Fun.ok (k := 0) T.F_Stock_bores sc_Stock_bores (fun vs H Q E h => ?_) (fun cdv A outer s H vs Q E hr h => ?_)
  · exact h.len fun M rs M' o ⟨_, _, _, _, e, _⟩ => by rw [e]; rfl
  · refine ⟨_, (pss_one (ps_ret (pe_callTy (call_listK (K := K) rfl) (by rfl) T.n_list (by decide +kernel) (pa_cons (pe_fldK (K := K) rfl (pe_fld (pv 0) rfl)) pa_nil)))), ?_⟩
    try dsimp only [cxOf, Cx.nox, Cx.wish, List.map]
    refine h.reading fun F As M rs M' o hΦ hL B S hB hA post => ?_
    obtain ⟨t, bs, ps, rfl, rfl, rfl, rfl⟩ := hΦ
    exact s_ret S (ev_cb (ea_cons (ev_fld (ev_var (r := .dat (stkD ad t bs ps)) rfl) T.cl_Stock T.na_bore_list sk_bores) ea_nil) (cd_listM (.inl rfl))) fun v F As σ H S r => post _ _ _ _ _ _ _ _ S rfl (Nat.zero_le _) rfl (by intro z; cases z) r
def ph_spins (ad : Ad) : List MC → List Rv → List MC → Out → Prop := fun M rs M' o => ∃ t bs ps, M = [] ∧ rs = [.dat (stkD ad t bs ps)] ∧ M' = [] ∧ o = .new (.lst ((sortI ps).map D.int))
abbrev sp_Stock_pins (K : PySem.W.Frag) (ad : Ad) : Sp := FSp K (ph_spins ad)
theorem ok_Stock_pins {P : Program} {w : World} {K : PySem.W.Frag} {mg : Str → Option Value} {base : Heap} {ad : Ad} {fd : Fd} (T : Txt K mg w ad fd) : FnOk P w K mg base CX0 1 ad.a_Stock_pins fd.d_Stock_pins ["self"] (sp_Stock_pins K ad) := by
  refine L2.Fun.ok (k := 0) T.F_Stock_pins sc_Stock_pins (fun vs H Q E h => ?_) (fun cdv A outer s H vs Q E hr h => ?_)
  · exact h.len fun M rs M' o ⟨_, _, _, _, e, _⟩ => by rw [e]; rfl
  · refine ⟨_, (pss_one (ps_ret (pe_callTy (call_listK (K := K) rfl) (by rfl) T.n_list (by decide +kernel) (pa_cons (pe_fldK (K := K) rfl (pe_fld (pv 0) rfl)) pa_nil)))), ?_⟩
    try dsimp only [cxOf, Cx.nox, Cx.wish, List.map]
    refine h.reading fun F As M rs M' o hΦ hL B S hB hA post => ?_
    obtain ⟨t, bs, ps, rfl, rfl, rfl, rfl⟩ := hΦ
    exact s_ret S (ev_cb (ea_cons (ev_fld (ev_var (r := .dat (stkD ad t bs ps)) rfl) T.cl_Stock T.na_pin_list sk_pins) ea_nil) (cd_listM (.inl rfl))) fun v F As σ H S r => post _ _ _ _ _ _ _ _ S rfl (Nat.zero_le _) rfl (by intro z; cases z) r
def sprV (t : Int) (bs ps : List Int) : Int := ((bs.length : Int) + ps.length - trn ([(ps.length : Int)] ++ skyR t bs ps ++ [(bs.length : Int)])) / 2
def ph_spr (ad : Ad) : List MC → List Rv → List MC → Out → Prop := fun M rs M' o => ∃ t bs ps, M = [] ∧ rs = [.dat (stkD ad t bs ps)] ∧ (0 ≤ t ∧ t ≤ 900) ∧ Sz t bs ∧ Sz t ps ∧ M' = [] ∧ o = .ret (.int (sprV t bs ps))
abbrev sp_Stock_spare (K : PySem.W.Frag) (ad : Ad) : Sp := FSp K (ph_spr ad)
theorem ok_Stock_spare {P : Program} {w : World} {K : PySem.W.Frag} {mg : Str → Option Value} {base : Heap} {ad : Ad} {fd : Fd} (T : Txt K mg w ad fd) : FnOk P w K mg base CX0 4 ad.a_Stock_spare fd.d_Stock_spare ["self"] (sp_Stock_spare K ad) := by
  have G_Stock_turns := ok_Stock_turns (P := P) (base := base) T
  have b_Stock_turns := T.F_Stock_turns.binds (ps := ["self"]) fun _ _ _ _ _ _ us hl => match us, hl with | [_], _ => rfl
  refine L2.Fun.ok (k := 3) T.F_Stock_spare sc_Stock_spare (fun vs H Q E h => ?_) (fun cdv A outer s H vs Q E hr h => ?_)
  · exact h.len fun M rs M' o ⟨_, _, _, _, e, _⟩ => by rw [e]; rfl
  · have hu := hu_of hr
    refine ⟨_, (pss_one (ps_ret (pe_op op_fdiv (pe_op op_sub (pe_op op_add (pe_callB (call_lenK (K := K) rfl) (by rfl) T.n_len (by decide +kernel) (pa_cons (pe_fldK (K := K) rfl (pe_fld (pv 0) rfl)) pa_nil)) (pe_callB (call_lenK (K := K) rfl) (by rfl) T.n_len (by decide +kernel) (pa_cons (pe_fldK (K := K) rfl (pe_fld (pv 0) rfl)) pa_nil))) (pe_meth0 (pv 0) T.cl_Stock T.m_Stock_turns G_Stock_turns (hr.mono (by decide)) b_Stock_turns .nil pass0)) (pe_int)))), ?_⟩
    try dsimp only [cxOf, Cx.nox, Cx.wish, List.map]
    refine h.reading fun F As M rs M' o hΦ hL B S hB hA post => ?_
    obtain ⟨t, bs, ps, rfl, rfl, ht, sb, sp, rfl, rfl⟩ := hΦ
    have v0 : ∀ {M : List MC} {E : List (Option Rv)}, E[0]? = some (some (.dat (stkD ad t bs ps))) → EvD K (tVar 0) M E M (.dat (stkD ad t bs ps)) := fun z => ev_var z
    exact s_ret S (r := rint (sprV t bs ps)) (M' := []) (ev_op (ev_op (ev_op (ev_is (ev_cb (ea_cons (ev_fld (v0 rfl) T.cl_Stock T.na_bore_list sk_bores) ea_nil) (cd_lenI (.inl rfl))) (by rw [sortI_length])) (ev_is (ev_cb (ea_cons (ev_fld (v0 rfl) T.cl_Stock T.na_pin_list sk_pins) ea_nil) (cd_lenI (.inl rfl))) (by rw [sortI_length])) od_int) (ev_mt (v0 rfl) sm_turns ea_nil (cl_ret0 (by intro z; cases z) ⟨t, bs, ps, rfl, rfl, ht, sb, sp, rfl, rfl⟩)) od_int) ev_int (od_intC (by refine (show CDiv _ _ from ⟨?_, ?_⟩) <;> omega))) fun v F As σ H S r => post _ _ _ _ _ _ _ S rfl r
theorem sm_bores {t : Int} {bs ps : List Int} : (stkF t bs ps).lookup ("bores" : Str) = none := by first | rfl | simp [stkF, List.lookup]
theorem sm_pins {t : Int} {bs ps : List Int} : (stkF t bs ps).lookup ("pins" : Str) = none := by first | rfl | simp [stkF, List.lookup]
theorem sm_spare {t : Int} {bs ps : List Int} : (stkF t bs ps).lookup ("spare" : Str) = none := by first | rfl | simp [stkF, List.lookup]
theorem sm_give {t : Int} {bs ps : List Int} : (stkF t bs ps).lookup ("give" : Str) = none := by first | rfl | simp [stkF, List.lookup]
theorem sm_can_give {t : Int} {bs ps : List Int} : (stkF t bs ps).lookup ("can_give" : Str) = none := by first | rfl | simp [stkF, List.lookup]
def ph_can (ad : Ad) : List MC → List Rv → List MC → Out → Prop := fun M rs M' o => ∃ t bs ps, M = [] ∧ rs = [.dat (stkD ad t bs ps)] ∧ bs.length < 64 ∧ ps.length < 64 ∧ M' = [] ∧ o = .ret (pairsD (goL bs ps))
abbrev sp_Stock_can_give (K : PySem.W.Frag) (ad : Ad) : Sp := FSp K (ph_can ad)
theorem sortU_len (ns : List Int) : (sortU ns).length ≤ ns.length := by
  induction ns with
  | nil => exact Nat.le_refl _
  | cons x ns ih =>
    have h : ∀ l : List Int, (insU x l).length ≤ l.length + 1 := fun l => by
      induction l with
      | nil => exact Nat.le_refl _
      | cons y l ih =>
        unfold insU
        split
        · exact Nat.le_refl _
        · split
          · exact Nat.le_succ _
          · rw [List.length_cons, List.length_cons]; omega
    have := h (sortU ns)
    show (insU x (sortU ns)).length ≤ _
    rw [List.length_cons]
    omega
theorem ok_Stock_can_give {P : Program} {w : World} {K : PySem.W.Frag} {mg : Str → Option Value} {base : Heap} {ad : Ad} {fd : Fd} (T : Txt K mg w ad fd) : FnOk P w K mg base CX0 1 ad.a_Stock_can_give fd.d_Stock_can_give ["self"] (sp_Stock_can_give K ad) := by
  refine L2.Fun.ok (k := 0) T.F_Stock_can_give sc_Stock_can_give (fun vs H Q E h => ?_) (fun cdv A outer s H vs Q E hr h => ?_)
  · exact h.len fun M rs M' o ⟨_, _, _, _, e, _⟩ => by rw [e]; rfl
  · refine ⟨_, (pss_cons (ps_set (i := 1) sc_Stock_can_give.nd rfl (by first | exact Or.inl rfl | exact Or.inr rfl) (pe_sortSet (K := K) rfl rfl (by rfl) T.n_sorted (by rfl) T.n_set (pa_cons (pe_fldK (K := K) rfl (pe_fld (pv 0) rfl)) pa_nil)))
  (pss_cons (ps_set (i := 2) sc_Stock_can_give.nd rfl (by first | exact Or.inl rfl | exact Or.inr rfl) (pe_sortSet (K := K) rfl rfl (by rfl) T.n_sorted (by rfl) T.n_set (pa_cons (pe_fldK (K := K) rfl (pe_fld (pv 0) rfl)) pa_nil)))
  (pss_one (ps_ret (pe_lc2 (vs1 := [4]) rfl sc_Stock_can_give.nd (pi_listK (K := K) rfl (pv 1)) (blkOk_by (own := [("pin", 3), ("bore", 4)]) (N := N_Stock_can_give) (sc := defScope s_Stock_can_give) (by decide +kernel)) (by decide) (fun _ _ _ _ _ => (pg_name (i := 3) sc_Stock_can_give.nd rfl (by first | exact Or.inl rfl | exact Or.inr rfl))) (fun _ _ _ _ _ => pts_nil) (fun _ _ _ _ _ => (pi_listK (K := K) rfl (pv 2))) (fun _ _ _ _ _ => (pg_name (i := 4) sc_Stock_can_give.nd rfl (by first | exact Or.inl rfl | exact Or.inr rfl))) (fun _ _ _ _ _ => (pts_one (pt_cmpR op_le (pv 3) (pv 4) (nomark _)))) (fun _ _ _ _ _ => (pe_tup (pa_cons (pv 3) (pa_cons (pv 4) pa_nil))))))))), ?_⟩
    try dsimp only [cxOf, Cx.nox, Cx.wish, List.map]
    refine h.reading fun F As M rs M' o hΦ hL B S hB hA post => ?_
    obtain ⟨t, bs, ps, rfl, rfl, lb, lp, rfl, rfl⟩ := hΦ
    have l1 := sortU_len bs
    have l2 := sortU_len ps
    refine q_set S (r := rints (sortU ps)) (M' := []) (ev_is (ev_sortSet (ns := sortI ps) (ea_cons (ev_fld (ev_var (r := .dat (stkD ad t bs ps)) rfl) T.cl_Stock T.na_pin_list sk_pins) ea_nil) (.inl rfl) (by rw [sortI_length]; exact lp)) (by rw [sortU_sort])) ?_
    intro F As σ H S
    try simp only [List.set_cons_zero, List.set_cons_succ] at S
    refine q_set S (r := rints (sortU bs)) (M' := []) (ev_is (ev_sortSet (ns := sortI bs) (ea_cons (ev_fld (ev_var (r := .dat (stkD ad t bs ps)) rfl) T.cl_Stock T.na_bore_list sk_bores) ea_nil) (.inl rfl) (by rw [sortI_length]; exact lb)) (by rw [sortU_sort])) ?_
    intro F As σ H S
    try simp only [List.set_cons_zero, List.set_cons_succ] at S
    refine s_ret S (r := .dat (pairsD (goL bs ps))) (M' := []) (ev_is (ev_lc2 (j := 3) (j1 := 4) (xs := sortU ps) (ys := sortU bs) (fun p b => decide (p ≤ b)) (fun p b => pairD (p, b)) (ev_var (r := rints (sortU ps)) rfl) (by omega) (by omega) (by decide) (fun x hx => ev_var (r := rints (sortU bs)) rfl) (fun x hx y hy => et_test (ev_op (ev_var (r := rint x) rfl) (ev_var (r := rint y) rfl) od_bool)) (fun x hx y hy _ => ev_tup (rs := [rint x, rint y]) (ea_cons (ev_var rfl) (ea_cons (ev_var rfl) ea_nil)) rfl (Nat.le_of_ble_eq_true rfl))) (by rw [goL_lc])) fun v F As σ H S r => post _ _ _ _ _ _ _ S rfl r
def ph_wp (ad : Ad) : List MC → List Rv → List MC → Out → Prop := fun M rs M' o => ∃ t bs ps, M = [] ∧ rs = [rint t, rints bs, rints ps] ∧ (1 ≤ t ∧ t ≤ 60) ∧ M' = [] ∧ o = .ret (stkD ad t bs ps)
abbrev sp_with_pieces (K : PySem.W.Frag) (ad : Ad) : Sp := FSp K (ph_wp ad)
theorem putD_eq {f : Str} {d e : D} {r : List (Str × D)} : putD f d ((f, e) :: r) = (f, d) :: r := if_pos rfl
theorem ok_with_pieces {P : Program} {w : World} {K : PySem.W.Frag} {mg : Str → Option Value} {base : Heap} {ad : Ad} {fd : Fd} (T : Txt K mg w ad fd) : FnOk P w K mg base CX0 6 ad.a_with_pieces fd.d_with_pieces ["top", "bores", "pins"] (sp_with_pieces K ad) := by
  have G_Stock___init__ := ok_Stock___init__ (P := P) (base := base) T
  have b_Stock___init__ := T.F_Stock___init__.binds (ps := ["self", "top", "bores", "pins"]) fun _ _ _ _ _ _ us hl => match us, hl with | [_, _, _, _], _ => rfl
  refine L2.Fun.ok (k := 5) T.F_with_pieces sc_with_pieces (fun vs H Q E h => ?_) (fun cdv A outer s H vs Q E hr h => ?_)
  · exact h.len fun M rs M' o ⟨_, _, _, _, e, _⟩ => by rw [e]; rfl
  · have hu := hu_of hr
    refine ⟨_, (pss_cons (ps_set (i := 3) sc_with_pieces.nd rfl (by first | exact Or.inl rfl | exact Or.inr rfl) (pe_make T.mk_Stock G_Stock___init__ (hr.mono (by first | decide | omega)) rfl T.g_Stock b_Stock___init__ .nil passN (pa_cons (pv 0) (pa_cons (pe_lst pa_nil) (pa_cons (pe_lst pa_nil) pa_nil)))))
  (pss_cons (ps_fldK (K := K) rfl (ps_fld (pv 3) (pe_callB (cr_sortedK (K := K) rfl) (by rfl) T.n_sorted (by decide +kernel) (pa_cons (pv 1) pa_nil)) rfl))
  (pss_cons (ps_fldK (K := K) rfl (ps_fld (pv 3) (pe_callB (cr_sortedK (K := K) rfl) (by rfl) T.n_sorted (by decide +kernel) (pa_cons (pv 2) pa_nil)) rfl))
  (pss_one (ps_ret (pv 3)))))), ?_⟩
    try dsimp only [cxOf, Cx.nox, Cx.wish, List.map]
    refine h.reading fun F As M rs M' o hΦ hL B S hB hA post => ?_
    obtain ⟨t, bs, ps, rfl, rfl, ht, rfl, rfl⟩ := hΦ
    have z0 : Sz t [] := fun z hz => by cases hz
    refine q_set S (r := .cel 0) (M' := [.ins ad.C_Stock (stkF t [] [])]) (ev_mk (M1 := []) (xs := [rint t, rints [], rints []]) (ea_cons (ev_var (r := rint t) rfl) (ea_cons (ev_lst (ds := []) ea_nil rfl (Nat.zero_le _)) (ea_cons (ev_lst (ds := []) ea_nil rfl (Nat.zero_le _)) ea_nil))) (cl_all (Φ := ph_stk ad) (M1 := [MC.ins ad.C_Stock []]) (M2 := [MC.ins ad.C_Stock (stkF t [] [])]) (d := .non) ⟨0, t, rints [], rints [], [], [], rfl, rfl, .inl rfl, .inl rfl, ht, z0, z0, Nat.zero_le _, rfl, rfl⟩ (set_keeps (M1 := [MC.ins ad.C_Stock []]) (k := 0) (m := MC.ins ad.C_Stock (stkF t [] [])) (fun z => z)))) ?_
    intro F As σ H S
    try simp only [List.set_cons_zero, List.set_cons_succ] at S
    refine q_fldE S (d := .lst ((sortI bs).map D.int)) (gs := [("top_number", .int t), ("bore_list", .lst ((sortI bs).map D.int)), ("pin_list", .lst ((sortI []).map D.int))]) (ev_cb (ea_cons (ev_var (r := rints bs) rfl) ea_nil) (cd_sorted (.inl rfl))) (ev_var (r := .cel 0) rfl) (k := 0) (fs := stkF t [] []) rfl T.cl_Stock T.na_bore_list (Nat.le_of_ble_eq_true rfl) (by
      unfold stkF
      rw [putD_ne (by decide +kernel), putD_eq]) ?_
    intro F As σ H S
    refine q_fldE S (d := .lst ((sortI ps).map D.int)) (gs := stkF t bs ps) (ev_cb (ea_cons (ev_var (r := rints ps) rfl) ea_nil) (cd_sorted (.inl rfl))) (ev_var (r := .cel 0) rfl) (k := 0) (fs := [("top_number", .int t), ("bore_list", .lst ((sortI bs).map D.int)), ("pin_list", .lst ((sortI []).map D.int))]) rfl T.cl_Stock T.na_pin_list (Nat.le_of_ble_eq_true rfl) (by
      unfold stkF
      rw [putD_ne (by decide +kernel), putD_ne (by decide +kernel), putD_eq]) ?_
    intro F As σ H S
    refine s_retF S hB (k := 0) (ev_var (r := .cel 0) rfl) rfl rfl (by rw [hA]; exact Nat.zero_le _) ?_
    intro v F As σ E H S rv
    exact post _ _ _ _ _ _ _ S rfl rv
def ph_give (ad : Ad) : List MC → List Rv → List MC → Out → Prop := fun M rs M' o => ∃ t bs ps pin bore, M = [] ∧ rs = [.dat (stkD ad t bs ps), rint pin, rint bore] ∧ (1 ≤ t ∧ t ≤ 60) ∧ bs.length ≤ 1000 ∧ ps.length ≤ 1000 ∧ pin ∈ ps ∧ bore ∈ bs ∧ pin ≤ bore ∧ M' = [] ∧ o = .ret (stkD ad t (remI bore (sortI bs)) (remI pin (sortI ps)))
abbrev sp_Stock_give (K : PySem.W.Frag) (ad : Ad) : Sp := FSp K (ph_give ad)
theorem ok_Stock_give {P : Program} {w : World} {K : PySem.W.Frag} {mg : Str → Option Value} {base : Heap} {ad : Ad} {fd : Fd} (T : Txt K mg w ad fd) : FnOk P w K mg base (L2N.CX P w) 7 ad.a_Stock_give fd.d_Stock_give ["self", "pin", "bore"] (sp_Stock_give K ad) := by
  have G_BadStock___init__ := ok_BadStock___init__ (P := P) (base := base) T
  have b_BadStock___init__ := T.F_BadStock___init__.binds (ps := ["self", "what"]) fun _ _ _ _ _ _ us hl => match us, hl with | [_, _], _ => rfl
  have G_with_pieces := ok_with_pieces (P := P) (base := base) T
  have b_with_pieces := T.F_with_pieces.binds (ps := ["top", "bores", "pins"]) fun _ _ _ _ _ _ us hl => match us, hl with | [_, _, _], _ => rfl
  have G_without := ok_without (P := P) (base := base) T
  have b_without := T.F_without.binds (ps := ["sizes", "size"]) fun _ _ _ _ _ _ us hl => match us, hl with | [_, _], _ => rfl
  refine DL.Fun.okN (k := 6) T.F_Stock_give sc_Stock_give (fun vs H Q E h => ?_) (fun cdv A outer s H vs Q E hr h => ?_)
  · exact h.len fun M rs M' o ⟨_, _, _, _, _, _, e, _⟩ => by rw [e]; rfl
  · have hu := hu_of hr
    refine ⟨_, (pss_cons (ps_if (PW.pt (pw_or (pt_cmpR (op_notInK (K := K) rfl) (pv 1) (pe_fldK (K := K) rfl (pe_fld (pv 0) rfl)) (by rfl)) (pw_or1 (pt_cmpR (op_notInK (K := K) rfl) (pv 2) (pe_fldK (K := K) rfl (pe_fld (pv 0) rfl)) (by rfl))))) (pss_one (L2N.ps_raise rfl (L2N.takes_of rfl rfl rfl rfl) (pmk_ini T.oe_BadStock T.m_BadStock___init__.at_ (beq_iff_eq.mp T.m_BadStock___init__.fn) G_BadStock___init__ (hr.mono (by first | decide | omega)) b_BadStock___init__ rfl T.g_BadStock (pa_cons (pe_str) pa_nil)))) pss_nil)
  (pss_cons (ps_if (pt_cmpR op_gt (pv 1) (pv 2) (nomark _)) (pss_one (L2N.ps_raise rfl (L2N.takes_of rfl rfl rfl rfl) (pmk_ini T.oe_BadStock T.m_BadStock___init__.at_ (beq_iff_eq.mp T.m_BadStock___init__.fn) G_BadStock___init__ (hr.mono (by first | decide | omega)) b_BadStock___init__ rfl T.g_BadStock (pa_cons (pe_str) pa_nil)))) pss_nil)
  (pss_one (ps_ret (pe_call G_with_pieces (hr.mono (by first | decide | omega)) rfl T.g_with_pieces T.F_with_pieces.kp b_with_pieces .nil pass0 (pa_cons (pe_fldK (K := K) rfl (pe_fld (pv 0) rfl)) (pa_cons (pe_call G_without (hr.mono (by first | decide | omega)) rfl T.g_without T.F_without.kp b_without .nil pass0 (pa_cons (pe_fldK (K := K) rfl (pe_fld (pv 0) rfl)) (pa_cons (pv 2) pa_nil))) (pa_cons (pe_call G_without (hr.mono (by first | decide | omega)) rfl T.g_without T.F_without.kp b_without .nil pass0 (pa_cons (pe_fldK (K := K) rfl (pe_fld (pv 0) rfl)) (pa_cons (pv 1) pa_nil))) pa_nil)))))))), ?_⟩
    try dsimp only [cxOf, Cx.nox, Cx.wish, List.map]
    refine h.reading fun F As M rs M' o hΦ hL B S hB hA post => ?_
    obtain ⟨t, bs, ps, pin, bore, rfl, rfl, ht, lb, lp, mp, mb, hle, rfl, rfl⟩ := hΦ
    have v0 : ∀ {M : List MC} {E : List (Option Rv)}, E[0]? = some (some (.dat (stkD ad t bs ps))) → EvD K (tVar 0) M E M (.dat (stkD ad t bs ps)) := fun z => ev_var z
    have mp2 : pin ∈ sortI ps := mem_sortI.mpr mp
    have mb2 : bore ∈ sortI bs := mem_sortI.mpr mb
    have l1 := sortI_length bs
    have l2 := sortI_length ps
    refine q_if S (b := false) (et_or2 (et_is (et_test (ev_op (ev_var (r := rint pin) rfl) (ev_fld (v0 rfl) T.cl_Stock T.na_pin_list sk_pins) (od_notinI (.inl rfl)))) (by rw [decide_eq_true mp2]; rfl)) (et_is (et_test (ev_op (ev_var (r := rint bore) rfl) (ev_fld (v0 rfl) T.cl_Stock T.na_bore_list sk_bores) (od_notinI (.inl rfl)))) (by rw [decide_eq_true mb2]; rfl))) (fun hc => by cases hc) ?_
    intro _ F As σ H S
    refine s_next S ?_
    intro F As σ H S
    try dsimp only
    refine q_if S (b := false) (et_is (et_test (ev_op (ev_var (r := rint pin) rfl) (ev_var (r := rint bore) rfl) od_bool)) (show decide (bore < pin) = false from decide_eq_false (by omega))) (fun hc => by cases hc) ?_
    intro _ F As σ H S
    refine s_next S ?_
    intro F As σ H S
    exact s_ret S (r := .dat (stkD ad t (remI bore (sortI bs)) (remI pin (sortI ps)))) (M' := []) (ev_call0 (ea_cons (ev_fld (v0 rfl) T.cl_Stock T.na_top_number sk_top) (ea_cons (ev_call0 (ea_cons (ev_fld (v0 rfl) T.cl_Stock T.na_bore_list sk_bores) (ea_cons (ev_var (r := rint bore) rfl) ea_nil)) (by intro z; cases z) ⟨sortI bs, bore, rfl, rfl, mb2, by omega, rfl, rfl⟩) (ea_cons (ev_call0 (ea_cons (ev_fld (v0 rfl) T.cl_Stock T.na_pin_list sk_pins) (ea_cons (ev_var (r := rint pin) rfl) ea_nil)) (by intro z; cases z) ⟨sortI ps, pin, rfl, rfl, mp2, by omega, rfl, rfl⟩) ea_nil))) (by intro z; cases z) ⟨t, remI bore (sortI bs), remI pin (sortI ps), rfl, rfl, ht, rfl, rfl⟩) fun v F As σ H S r => post _ _ _ _ _ _ _ S rfl r
def ph_stop (ad : Ad) : List MC → List Rv → List MC → Out → Prop := fun M rs M' o => ∃ t bs ps, M = [] ∧ rs = [.dat (stkD ad t bs ps)] ∧ M' = [] ∧ o = .ret (.int t)
abbrev sp_Stock_top (K : PySem.W.Frag) (ad : Ad) : Sp := FSp K (ph_stop ad)
theorem sm_top {t : Int} {bs ps : List Int} : (stkF t bs ps).lookup ("top" : Str) = none := by first | rfl | simp [stkF, List.lookup]
theorem sm_come {t : Int} {bs ps : List Int} : (stkF t bs ps).lookup ("come" : Str) = none := by first | rfl | simp [stkF, List.lookup]
theorem ok_Stock_top {P : Program} {w : World} {K : PySem.W.Frag} {mg : Str → Option Value} {base : Heap} {ad : Ad} {fd : Fd} (T : Txt K mg w ad fd) : FnOk P w K mg base CX0 1 ad.a_Stock_top fd.d_Stock_top ["self"] (sp_Stock_top K ad) := by
  refine L2.Fun.ok (k := 0) T.F_Stock_top sc_Stock_top (fun vs H Q E h => ?_) (fun cdv A outer s H vs Q E hr h => ?_)
  · exact h.len fun M rs M' o ⟨_, _, _, _, e, _⟩ => by rw [e]; rfl
  · refine ⟨_, (pss_one (ps_ret (pe_fldK (K := K) rfl (pe_fld (pv 0) rfl)))), ?_⟩
    try dsimp only [cxOf, Cx.nox, Cx.wish, List.map]
    refine h.reading fun F As M rs M' o hΦ hL B S hB hA post => ?_
    obtain ⟨t, bs, ps, rfl, rfl, rfl, rfl⟩ := hΦ
    exact s_ret S (ev_fld (ev_var (r := .dat (stkD ad t bs ps)) rfl) T.cl_Stock T.na_top_number sk_top) fun v F As σ H S r => post _ _ _ _ _ _ _ S rfl r
theorem stk_perm {ad : Ad} {t : Int} {bs ps bs' ps' : List Int} (hb : bs.Perm bs') (hp : ps.Perm ps') : stkD ad t bs ps = stkD ad t bs' ps' := by
  show D.ins _ (stkF _ _ _) = D.ins _ (stkF _ _ _)
  unfold stkF
  rw [sortI_eq hb, sortI_eq hp]
def ph_come (ad : Ad) : List MC → List Rv → List MC → Out → Prop := fun M rs M' o => ∃ t bs ps bore pin, M = [] ∧ rs = [.dat (stkD ad t bs ps), rint bore, rint pin] ∧ (1 ≤ t ∧ t ≤ 60) ∧ (0 ≤ bore ∧ bore ≤ t) ∧ (0 ≤ pin ∧ pin ≤ t) ∧ bs.length ≤ 1000 ∧ ps.length ≤ 1000 ∧ M' = [] ∧ o = .ret (stkD ad t (bs ++ [bore]) (ps ++ [pin]))
abbrev sp_Stock_come (K : PySem.W.Frag) (ad : Ad) : Sp := FSp K (ph_come ad)
theorem ok_Stock_come {P : Program} {w : World} {K : PySem.W.Frag} {mg : Str → Option Value} {base : Heap} {ad : Ad} {fd : Fd} (T : Txt K mg w ad fd) : FnOk P w K mg base (L2N.CX P w) 7 ad.a_Stock_come fd.d_Stock_come ["self", "bore", "pin"] (sp_Stock_come K ad) := by
  have G_check_sizes := ok_check_sizes (P := P) (base := base) T
  have b_check_sizes := T.F_check_sizes.binds (ps := ["what", "sizes", "top"]) fun _ _ _ _ _ _ us hl => match us, hl with | [_, _, _], _ => rfl
  have G_with_pieces := ok_with_pieces (P := P) (base := base) T
  have b_with_pieces := T.F_with_pieces.binds (ps := ["top", "bores", "pins"]) fun _ _ _ _ _ _ us hl => match us, hl with | [_, _, _], _ => rfl
  refine DL.Fun.okN (k := 6) T.F_Stock_come sc_Stock_come (fun vs H Q E h => ?_) (fun cdv A outer s H vs Q E hr h => ?_)
  · exact h.len fun M rs M' o ⟨_, _, _, _, _, _, e, _⟩ => by rw [e]; rfl
  · have hu := hu_of hr
    refine ⟨_, (pss_cons (ps_expr (pe_call G_check_sizes (hr.mono (by first | decide | omega)) rfl T.g_check_sizes T.F_check_sizes.kp b_check_sizes .nil (L2N.passes_call (L2N.takes_of rfl rfl rfl rfl) (fun _ _ _ _ h => h)) (pa_cons (pe_str) (pa_cons (pe_lst (pa_cons (pv 1) pa_nil)) (pa_cons (pe_fldK (K := K) rfl (pe_fld (pv 0) rfl)) pa_nil)))))
  (pss_cons (ps_expr (pe_call G_check_sizes (hr.mono (by first | decide | omega)) rfl T.g_check_sizes T.F_check_sizes.kp b_check_sizes .nil (L2N.passes_call (L2N.takes_of rfl rfl rfl rfl) (fun _ _ _ _ h => h)) (pa_cons (pe_str) (pa_cons (pe_lst (pa_cons (pv 2) pa_nil)) (pa_cons (pe_fldK (K := K) rfl (pe_fld (pv 0) rfl)) pa_nil)))))
  (pss_one (ps_ret (pe_call G_with_pieces (hr.mono (by first | decide | omega)) rfl T.g_with_pieces T.F_with_pieces.kp b_with_pieces .nil pass0 (pa_cons (pe_fldK (K := K) rfl (pe_fld (pv 0) rfl)) (pa_cons (pe_op op_cat (pe_fldK (K := K) rfl (pe_fld (pv 0) rfl)) (pe_lst (pa_cons (pv 1) pa_nil))) (pa_cons (pe_op op_cat (pe_fldK (K := K) rfl (pe_fld (pv 0) rfl)) (pe_lst (pa_cons (pv 2) pa_nil))) pa_nil)))))))), ?_⟩
    try dsimp only [cxOf, Cx.nox, Cx.wish, List.map]
    refine h.reading fun F As M rs M' o hΦ hL B S hB hA post => ?_
    obtain ⟨t, bs, ps, bore, pin, rfl, rfl, ht, hb, hp, lb, lp, rfl, rfl⟩ := hΦ
    have v0 : ∀ {M : List MC} {E : List (Option Rv)}, E[0]? = some (some (.dat (stkD ad t bs ps))) → EvD K (tVar 0) M E M (.dat (stkD ad t bs ps)) := fun z => ev_var z
    have l1 := sortI_length bs
    have l2 := sortI_length ps
    have one : ∀ {x : Int}, 0 ≤ x ∧ x ≤ t → Sz t [x] := fun hx z hz => by rw [List.mem_singleton.mp hz]; exact hx
    refine q_drop S (ev_cl (ea_cons ev_str (ea_cons (ev_lst (ds := [D.int bore]) (ea_cons (ev_var (r := rint bore) rfl) ea_nil) rfl (Nat.le_of_ble_eq_true rfl)) (ea_cons (ev_fld (v0 rfl) T.cl_Stock T.na_top_number sk_top) ea_nil))) (cl_read (d := .non) ⟨"bore", rints [bore], [bore], t, rfl, .inl rfl, one hb, rfl, rfl⟩)) ?_
    intro F As σ H S
    refine q_drop S (ev_cl (ea_cons ev_str (ea_cons (ev_lst (ds := [D.int pin]) (ea_cons (ev_var (r := rint pin) rfl) ea_nil) rfl (Nat.le_of_ble_eq_true rfl)) (ea_cons (ev_fld (v0 rfl) T.cl_Stock T.na_top_number sk_top) ea_nil))) (cl_read (d := .non) ⟨"pin", rints [pin], [pin], t, rfl, .inl rfl, one hp, rfl, rfl⟩)) ?_
    intro F As σ H S
    refine s_ret S (r := .dat (stkD ad t (bs ++ [bore]) (ps ++ [pin]))) (M' := []) (ev_is (ev_call0 (d := stkD ad t (sortI bs ++ [bore]) (sortI ps ++ [pin])) (ea_cons (ev_fld (v0 rfl) T.cl_Stock T.na_top_number sk_top) (ea_cons (ev_is (ev_op (ev_fld (v0 rfl) T.cl_Stock T.na_bore_list sk_bores) (ev_lst (ds := [D.int bore]) (ea_cons (ev_var (r := rint bore) rfl) ea_nil) rfl (Nat.le_of_ble_eq_true rfl)) (od_cat (.inl rfl) (.inl rfl) (by rw [List.length_map]; show _ + 1 ≤ _; omega))) (rints_cat (sortI bs) [bore])) (ea_cons (ev_is (ev_op (ev_fld (v0 rfl) T.cl_Stock T.na_pin_list sk_pins) (ev_lst (ds := [D.int pin]) (ea_cons (ev_var (r := rint pin) rfl) ea_nil) rfl (Nat.le_of_ble_eq_true rfl)) (od_cat (.inl rfl) (.inl rfl) (by rw [List.length_map]; show _ + 1 ≤ _; omega))) (rints_cat (sortI ps) [pin])) ea_nil))) (by intro z; cases z) ⟨t, sortI bs ++ [bore], sortI ps ++ [pin], rfl, rfl, ht, rfl, rfl⟩) (by rw [stk_perm ((sortI_perm bs).append_right _) ((sortI_perm ps).append_right _)])) fun v F As σ H S r => post _ _ _ _ _ _ _ S rfl r
end K09
set_option Elab.async false
set_option linter.all false
set_option maxRecDepth 100000
set_option maxHeartbeats 4000000
namespace K09
open PySem L2 DL
/-! ### the steps: one rule an expression, by its reading's head -/
local macro_rules | `(tactic| wtm_at "ev") => `(tactic| first
  | exact ev_var rfl
  | exact ev_int
  | exact ev_non
  | exact ev_bl
  | exact ev_str
  | exact ea_nil
  | with_reducible apply ea_cons
  | ((with_reducible refine' ev_isi ?a ?b ?c); (case' a => repeat' wtm_at "ev"); (case' b => exact rfl); (case' c => exact rfl))
  | with_reducible apply ev_cb
  | with_reducible apply ev_op
  | with_reducible apply ev_un
  | with_reducible apply et_test
  | with_reducible apply et_B
  | with_reducible apply et_not
  | with_reducible apply ev_isN
  | with_reducible apply ev_notN
  | with_reducible apply ev_notV
  | with_reducible apply et_and
  | with_reducible apply et_or
  | with_reducible apply ev_andV
  | with_reducible apply ev_orV
  | with_reducible apply ev_ifI
  | with_reducible apply ev_ifD
  | ((with_reducible refine' ev_dnotin ?a ?b ?c ?d); (case' a => repeat' wtm_at "ev"); (case' b => repeat' wtm_at "ev"); (case' c => exact rfl); (case' d => first | exact .inl rfl | exact .inr ⟨_, rfl, rfl⟩))
  | ((with_reducible refine' ev_din ?a ?b ?c ?d); (case' a => repeat' wtm_at "ev"); (case' b => repeat' wtm_at "ev"); (case' c => exact rfl); (case' d => first | exact .inl rfl | exact .inr ⟨_, rfl, rfl⟩))
  | with_reducible apply ev_lcLAI
  | with_reducible apply ev_lcLII
  | with_reducible apply ev_lcLA
  | with_reducible apply ev_lcLI
  | with_reducible apply ev_lcRAI
  | with_reducible apply ev_lcRI
  | with_reducible apply ev_lcRA
  | with_reducible apply ev_lcR
  | exact et_yes
  | with_reducible intro _
  | exact od_int
  | exact od_bool
  | exact od_eqI
  | exact od_neI
  | exact od_eqS
  | exact od_neS
  | exact ud_neg
  | exact cd_abs
  | exact cd_max2
  | exact cd_min2
  | exact cd_int
  | exact cd_intB
  | exact cd_lenScr
  | exact cd_lenT
  | exact cd_lenI (.inl rfl)
  | exact cd_lenI (.inr ⟨_, rfl, rfl⟩)
  | exact cd_len (.inl rfl)
  | exact cd_len (.inr ⟨_, rfl, rfl⟩)
  | exact cd_lenD (.inl rfl)
  | exact cd_lenD (.inr ⟨_, rfl, rfl⟩)
  | exact cd_sum (.inl rfl)
  | exact cd_sorted (.inl rfl)
  | exact cd_list (.inl rfl)
  | exact cd_listT
  | exact eo_none
  | with_reducible apply eo_some
  | with_reducible apply ev_sliceScr
  | refine' ev_sliceI ?_ ?_ ?_ (.inl rfl)
  | with_reducible apply od_intC
  | with_reducible apply od_ixScr
  | refine' od_ixI (.inl rfl) ?_ ?_
  | refine' od_ixI (.inr ⟨_, rfl, rfl⟩) ?_ ?_
  | exact od_ixT rfl
  | exact od_inI (.inl rfl)
  | exact od_notinI (.inl rfl)
  | refine' od_cat (.inl rfl) (.inl rfl) ?_
  | ((with_reducible refine' ev_tup ?h ?r ?l); (case' h => repeat' wtm_at "ev"); (case' r => exact rfl); (case' l => exact Nat.le_of_ble_eq_true rfl))
  | (refine (show CMul _ _ from .inl ⟨?_, ?_⟩) <;> decide)
  | (refine (show CMul _ _ from .inr ⟨?_, ?_⟩) <;> decide)
  | (refine (show (_ : Prop) from ?_); assumption)
  | (refine (show CDiv _ _ from ⟨?_, ?_⟩) <;> omega)
  | (refine (show CPow _ _ from ⟨?_, ?_, ?_⟩) <;> decide)
  | omega
  | (simp only [Pz.len]; done)
  | (simp only [Pz.len, List.length_map, List.length_append, List.length_range, List.length_set, List.length_reverse]; omega))
/-! a statement's step: its values are reckoned, what is left is the way on -/
local macro_rules | `(tactic| wtm_at "st") => `(tactic| first
  | (refine' q_set (by assumption) ?h ?k; (case' h => repeat' wtm_at "ev"); (case' k => (intro _ _ _ _ _; try dsimp only)))
  | (refine' s_set (by assumption) ?h ?k; (case' h => repeat' wtm_at "ev"); (case' k => (intro _ _ _ _ _; try dsimp only)))
  | (refine' q_augS (by assumption) ?h1 ?h2 ?h3 ?r1 ?r2 ?s1 ?s2 ?k; (case' h1 => repeat' wtm_at "ev"); (case' h2 => repeat' wtm_at "ev"); (case' h3 => repeat' wtm_at "ev"); (case' r1 => exact rfl); (case' r2 => exact rfl); (case' s1 => try wtm_at "ev"); (case' s2 => try wtm_at "ev"); (case' k => (intro _ _ _ _ _; try dsimp only)))
  | (refine' s_augS (by assumption) ?h1 ?h2 ?h3 ?r1 ?r2 ?s1 ?s2 ?k; (case' h1 => repeat' wtm_at "ev"); (case' h2 => repeat' wtm_at "ev"); (case' h3 => repeat' wtm_at "ev"); (case' r1 => exact rfl); (case' r2 => exact rfl); (case' s1 => try wtm_at "ev"); (case' s2 => try wtm_at "ev"); (case' k => (intro _ _ _ _ _; try dsimp only)))
  | (refine' q_setLI (by assumption) ?h ?h1 ?h2 ?r1 ?s1 ?s2 ?k; (case' h => repeat' wtm_at "ev"); (case' h1 => repeat' wtm_at "ev"); (case' h2 => repeat' wtm_at "ev"); (case' r1 => exact rfl); (case' s1 => try wtm_at "ev"); (case' s2 => try wtm_at "ev"); (case' k => (intro _ _ _ _ _; try dsimp only)))
  | (refine' q_setL (by assumption) ?h ?h1 ?h2 ?r1 ?s1 ?s2 ?k; (case' h => repeat' wtm_at "ev"); (case' h1 => repeat' wtm_at "ev"); (case' h2 => repeat' wtm_at "ev"); (case' r1 => exact rfl); (case' s1 => try wtm_at "ev"); (case' s2 => try wtm_at "ev"); (case' k => (intro _ _ _ _ _; try dsimp only)))
  | (refine' s_setLI (by assumption) ?h ?h1 ?h2 ?r1 ?s1 ?s2 ?k; (case' h => repeat' wtm_at "ev"); (case' h1 => repeat' wtm_at "ev"); (case' h2 => repeat' wtm_at "ev"); (case' r1 => exact rfl); (case' s1 => try wtm_at "ev"); (case' s2 => try wtm_at "ev"); (case' k => (intro _ _ _ _ _; try dsimp only)))
  | (refine' s_setL (by assumption) ?h ?h1 ?h2 ?r1 ?s1 ?s2 ?k; (case' h => repeat' wtm_at "ev"); (case' h1 => repeat' wtm_at "ev"); (case' h2 => repeat' wtm_at "ev"); (case' r1 => exact rfl); (case' s1 => try wtm_at "ev"); (case' s2 => try wtm_at "ev"); (case' k => (intro _ _ _ _ _; try dsimp only)))
  | (refine' q_appI (by assumption) ?h1 ?h ?r1 ?r2 ?s ?k; (case' h1 => repeat' wtm_at "ev"); (case' h => repeat' wtm_at "ev"); (case' r1 => exact rfl); (case' r2 => exact rfl); (case' s => try wtm_at "ev"); (case' k => (intro _ _ _ _ _; try dsimp only)))
  | (refine' q_app (by assumption) ?h1 ?h ?r1 ?r2 ?s ?k; (case' h1 => repeat' wtm_at "ev"); (case' h => repeat' wtm_at "ev"); (case' r1 => exact rfl); (case' r2 => exact rfl); (case' s => try wtm_at "ev"); (case' k => (intro _ _ _ _ _; try dsimp only)))
  | (refine' s_appI (by assumption) ?h1 ?h ?r1 ?r2 ?s ?k; (case' h1 => repeat' wtm_at "ev"); (case' h => repeat' wtm_at "ev"); (case' r1 => exact rfl); (case' r2 => exact rfl); (case' s => try wtm_at "ev"); (case' k => (intro _ _ _ _ _; try dsimp only)))
  | (refine' s_app (by assumption) ?h1 ?h ?r1 ?r2 ?s ?k; (case' h1 => repeat' wtm_at "ev"); (case' h => repeat' wtm_at "ev"); (case' r1 => exact rfl); (case' r2 => exact rfl); (case' s => try wtm_at "ev"); (case' k => (intro _ _ _ _ _; try dsimp only)))
  | (refine' q_dput (by assumption) ?h ?h1 ?h2 ?r1 ?r2 ?s ?k; (case' h => repeat' wtm_at "ev"); (case' h1 => repeat' wtm_at "ev"); (case' h2 => repeat' wtm_at "ev"); (case' r1 => exact rfl); (case' r2 => exact rfl); (case' s => try wtm_at "ev"); (case' k => (intro _ _ _ _ _; try dsimp only)))
  | (refine' s_dput (by assumption) ?h ?h1 ?h2 ?r1 ?r2 ?s ?k; (case' h => repeat' wtm_at "ev"); (case' h1 => repeat' wtm_at "ev"); (case' h2 => repeat' wtm_at "ev"); (case' r1 => exact rfl); (case' r2 => exact rfl); (case' s => try wtm_at "ev"); (case' k => (intro _ _ _ _ _; try dsimp only)))
  | (refine' q_tup2 (by assumption) ?h ?k; (case' h => repeat' wtm_at "ev"); (case' k => (intro _ _ _ _ _; try dsimp only)))
  | (refine' q_drop (by assumption) ?h ?k; (case' h => repeat' wtm_at "ev"); (case' k => (intro _ _ _ _ _; try dsimp only)))
  | (refine' q_if (by assumption) ?h ?k1 ?k2; (case' h => repeat' wtm_at "ev"))
  | (refine' s_if (by assumption) ?h ?k1 ?k2; (case' h => repeat' wtm_at "ev"))
  | (refine' s_ret (by assumption) ?h ?k; (case' h => repeat' wtm_at "ev"); (case' k => (intro _ _ _ _ _ _ _; try dsimp only)))
  | (refine' q_ret (by assumption) ?h ?k; (case' h => repeat' wtm_at "ev"); (case' k => (intro _ _ _ _ _ _ _; try dsimp only)))
  | ((with_reducible refine' s_next (by assumption) ?k); (case' k => (intro _ _ _ _ _; try dsimp only)))
  | (with_reducible refine q_next ?_))

/-! ### the first of a row -/
theorem find_at {p : Int → Bool} : ∀ {vs : List Int} {i : Nat} {x : Int}, vs[i]? = some x → p x = true → (∀ j y, j < i → vs[j]? = some y → p y = false) → vs.find? p = some x
  | [], i, x, h, _, _ => by simp at h
  | v :: vs, 0, x, h, hp, _ => by
    have e : v = x := by simpa using h
    subst e
    rw [List.find?_cons, hp]
  | v :: vs, i + 1, x, h, hp, hj => by
    have h0 := hj 0 v (Nat.zero_lt_succ _) rfl
    rw [List.find?_cons, h0]
    exact find_at (i := i) (by simpa using h) hp fun j y hji hy => hj (j + 1) y (by omega) (by simpa using hy)
theorem find_no {p : Int → Bool} {vs : List Int} (h : ∀ j y, j < vs.length → vs[j]? = some y → p y = false) : vs.find? p = none := List.find?_eq_none.mpr fun x hx => by
  obtain ⟨i, hi, e⟩ := List.mem_iff_getElem.mp hx
  rw [h i x hi (by rw [List.getElem?_eq_getElem hi, e])]
  exact Bool.false_ne_true
def optI : Option Int → D
  | none => .non
  | some x => .int x
def optP : Option (Int × Int) → D
  | none => .non
  | some q => pairD q
/-- the least size of both kinds -/
def exO (bs ps : List Int) : Option Int := (sortI ps).find? fun z => decide (z ∈ bs)
/-- the bore next behind a pin -/
def bbO (bs ps : List Int) (pin : Int) : Option Int :=
  match (sortI bs).filter fun z => decide (pin < z) with
  | [] => none
  | b :: _ => if ((sortI ps).filter fun z => decide (pin < z) && decide (z ≤ b)) = [] then some b else none
theorem bbO_spec {bs ps : List Int} {pin b : Int} : bbO bs ps pin = some b ↔ b ∈ bs ∧ pin < b ∧ (∀ z ∈ bs, pin < z → b ≤ z) ∧ ∀ z ∈ ps, pin < z → z ≤ b → False := by
  have hp : ((sortI bs).filter fun z => decide (pin < z)).Pairwise (· ≤ ·) := (sortI_pair bs).sublist List.filter_sublist
  have hm : ∀ z, z ∈ ((sortI bs).filter fun z => decide (pin < z)) ↔ z ∈ bs ∧ pin < z := fun z => by rw [List.mem_filter, mem_sortI, decide_eq_true_eq]
  unfold bbO
  generalize ((sortI bs).filter fun z => decide (pin < z)) = Bs at hp hm ⊢
  cases Bs with
  | nil =>
    constructor
    · intro h; cases h
    · rintro ⟨h1, h2, _⟩
      have := (hm b).mpr ⟨h1, h2⟩
      cases this
  | cons c Bs =>
    dsimp only
    obtain ⟨q1, q2⟩ := List.pairwise_cons.mp hp
    have hc := (hm c).mp (List.mem_cons_self ..)
    have hmin : ∀ z ∈ bs, pin < z → c ≤ z := fun z hz hz2 => by
      rcases List.mem_cons.mp ((hm z).mpr ⟨hz, hz2⟩) with e | e
      · rw [e]; exact Int.le_refl _
      · exact q1 z e
    have hfil : ((sortI ps).filter fun z => decide (pin < z) && decide (z ≤ c)) = [] ↔ ∀ z ∈ ps, pin < z → z ≤ c → False := by
      rw [List.filter_eq_nil_iff]
      constructor
      · intro h z hz a1 a2
        exact h z (mem_sortI.mpr hz) (by rw [decide_eq_true a1, decide_eq_true a2]; rfl)
      · intro h z hz hb
        rw [Bool.and_eq_true, decide_eq_true_eq, decide_eq_true_eq] at hb
        exact h z (mem_sortI.mp hz) hb.1 hb.2
    constructor
    · intro h
      split at h
      · rename_i hf
        cases h
        exact ⟨hc.1, hc.2, hmin, hfil.mp hf⟩
      · cases h
    · rintro ⟨h1, h2, h3, h4⟩
      have e : c = b := Int.le_antisymm (hmin b h1 h2) (h3 c hc.1 hc.2)
      subst e
      rw [if_pos (hfil.mpr h4)]
def okB (t : Int) (bs ps row : List Int) (pin : Int) : Bool := match bbO bs ps pin with
  | none => false
  | some b => ((List.range (b - pin).toNat).map fun (k : Nat) => decide (gI (skyR t bs ps) (pin + (k : Int)) ≤ gI row (pin + (k : Int)))).all id
def Low (t : Int) (bs ps row : List Int) : Prop := ∃ k : Nat, k < t.toNat ∧ gI row (k : Int) < gI (skyR t bs ps) (k : Int) - 1
open Classical in
noncomputable def stepV (t : Int) (bs ps row : List Int) : Option (Int × Int) :=
  if Low t bs ps row then none else match exO bs ps with
    | some s => some (s, s)
    | none => match (sortI ps).find? (okB t bs ps row) with
      | none => none
      | some pin => (bbO bs ps pin).map fun b => (pin, b)
theorem sky_at {t : Int} {bs ps : List Int} {k : Int} (h0 : 0 ≤ k) (h1 : k < t) : gI (skyR t bs ps) k = wV bs ps (k + 1) := by
  have e : k = ((k.toNat : Nat) : Int) := by omega
  unfold skyR
  rw [e, arr_at (by omega)]
/-! ### the walks -/
section
variable {ad : Ad} {K : PySem.W.Frag} {M M1 : List MC} {E : List (Option Rv)} {t : Int} {bs ps : List Int} {XX : XK} {te : TE} {ta : TA}
theorem ev_sbores (h : EvD K te M E M1 (.dat (stkD ad t bs ps))) : EvD K (tMeth ad.C_Stock "bores" (sp_Stock_bores K ad) [] XX te tNil) M E M1 (rints (sortI bs)) := ev_mt h sm_bores ea_nil (cl_newF0 (by intro z; cases z) ⟨t, bs, ps, rfl, rfl, rfl, rfl⟩ rfl)
theorem ev_spins (h : EvD K te M E M1 (.dat (stkD ad t bs ps))) : EvD K (tMeth ad.C_Stock "pins" (sp_Stock_pins K ad) [] XX te tNil) M E M1 (rints (sortI ps)) := ev_mt h sm_pins ea_nil (cl_newF0 (by intro z; cases z) ⟨t, bs, ps, rfl, rfl, rfl, rfl⟩ rfl)
theorem ev_ssky (h : EvD K te M E M1 (.dat (stkD ad t bs ps))) (ht : 0 ≤ t ∧ t ≤ 1000) (sb : Sz t bs) (sp : Sz t ps) : EvD K (tMeth ad.C_Stock "skyline" (sp_Stock_skyline K ad) [] XX te tNil) M E M1 (rints (skyR t bs ps)) := ev_mt h sm_skyline ea_nil (cl_newF0 (by intro z; cases z) ⟨t, bs, ps, rfl, rfl, ht, sb, sp, rfl, rfl⟩ rfl)
theorem ev_strn (h : EvD K te M E M1 (.dat (stkD ad t bs ps))) (ht : 0 ≤ t ∧ t ≤ 900) (sb : Sz t bs) (sp : Sz t ps) : EvD K (tMeth ad.C_Stock "turns" (sp_Stock_turns K ad) [] XX te tNil) M E M1 (rint (trn ([(ps.length : Int)] ++ skyR t bs ps ++ [(bs.length : Int)]))) := ev_mt h sm_turns ea_nil (cl_ret0 (by intro z; cases z) ⟨t, bs, ps, rfl, rfl, ht, sb, sp, rfl, rfl⟩)
theorem ev_sspr (h : EvD K te M E M1 (.dat (stkD ad t bs ps))) (ht : 0 ≤ t ∧ t ≤ 900) (sb : Sz t bs) (sp : Sz t ps) : EvD K (tMeth ad.C_Stock "spare" (sp_Stock_spare K ad) [] XX te tNil) M E M1 (rint (sprV t bs ps)) := ev_mt h sm_spare ea_nil (cl_ret0 (by intro z; cases z) ⟨t, bs, ps, rfl, rfl, ht, sb, sp, rfl, rfl⟩)
theorem ev_scan (h : EvD K te M E M1 (.dat (stkD ad t bs ps))) (lb : bs.length < 64) (lp : ps.length < 64) : EvD K (tMeth ad.C_Stock "can_give" (sp_Stock_can_give K ad) [] XX te tNil) M E M1 (.dat (pairsD (goL bs ps))) := ev_mt h sm_can_give ea_nil (cl_ret0 (by intro z; cases z) ⟨t, bs, ps, rfl, rfl, lb, lp, rfl, rfl⟩)
theorem ev_stop (h : EvD K te M E M1 (.dat (stkD ad t bs ps))) : EvD K (tMeth ad.C_Stock "top" (sp_Stock_top K ad) [] XX te tNil) M E M1 (rint t) := ev_mt h sm_top ea_nil (cl_ret0 (by intro z; cases z) ⟨t, bs, ps, rfl, rfl, rfl, rfl⟩)
theorem ev_sgive {M2 : List MC} {pin bore : Int} (h : EvD K te M E M1 (.dat (stkD ad t bs ps))) (ha : EvA K ta M1 E M2 [rint pin, rint bore]) (ht : 1 ≤ t ∧ t ≤ 60) (lb : bs.length ≤ 1000) (lp : ps.length ≤ 1000) (mp : pin ∈ ps) (mb : bore ∈ bs) (hle : pin ≤ bore) : EvD K (tMeth ad.C_Stock "give" (sp_Stock_give K ad) [] XX te ta) M E M2 (.dat (stkD ad t (remI bore (sortI bs)) (remI pin (sortI ps)))) := ev_mt h sm_give ha (cl_ret0 (by intro z; cases z) ⟨t, bs, ps, pin, bore, rfl, rfl, ht, lb, lp, mp, mb, hle, rfl, rfl⟩)
theorem ev_scome {M2 : List MC} {pin bore : Int} (h : EvD K te M E M1 (.dat (stkD ad t bs ps))) (ha : EvA K ta M1 E M2 [rint bore, rint pin]) (ht : 1 ≤ t ∧ t ≤ 60) (hb : 0 ≤ bore ∧ bore ≤ t) (hp : 0 ≤ pin ∧ pin ≤ t) (lb : bs.length ≤ 1000) (lp : ps.length ≤ 1000) : EvD K (tMeth ad.C_Stock "come" (sp_Stock_come K ad) [] XX te ta) M E M2 (.dat (stkD ad t (bs ++ [bore]) (ps ++ [pin]))) := ev_mt h sm_come ha (cl_ret0 (by intro z; cases z) ⟨t, bs, ps, bore, pin, rfl, rfl, ht, hb, hp, lb, lp, rfl, rfl⟩)
end
def ph_exs (ad : Ad) : List MC → List Rv → List MC → Out → Prop := fun M rs M' o => ∃ t bs ps, M = [] ∧ rs = [.dat (stkD ad t bs ps)] ∧ bs.length ≤ 1000 ∧ ps.length ≤ 1000 ∧ M' = [] ∧ o = .ret (optI (exO bs ps))
abbrev sp_exact_size (K : PySem.W.Frag) (ad : Ad) : Sp := FSp K (ph_exs ad)
theorem ok_exact_size {P : Program} {w : World} {K : PySem.W.Frag} {mg : Str → Option Value} {base : Heap} {ad : Ad} {fd : Fd} (T : Txt K mg w ad fd) : FnOk P w K mg base CX0 2 ad.a_exact_size fd.d_exact_size ["stock"] (sp_exact_size K ad) := by
  have G_Stock_bores := ok_Stock_bores (P := P) (base := base) T
  have b_Stock_bores := T.F_Stock_bores.binds (ps := ["self"]) fun _ _ _ _ _ _ us hl => match us, hl with | [_], _ => rfl
  have G_Stock_pins := ok_Stock_pins (P := P) (base := base) T
  have b_Stock_pins := T.F_Stock_pins.binds (ps := ["self"]) fun _ _ _ _ _ _ us hl => match us, hl with | [_], _ => rfl
  refine L2.Fun.ok (k := 1) T.F_exact_size sc_exact_size (fun vs H Q E h => ?_) (fun cdv A outer s H vs Q E hr h => ?_)
  · exact h.len fun M rs M' o ⟨_, _, _, _, e, _⟩ => by rw [e]; rfl
  · have hu := hu_of hr
    refine ⟨_, (pss_cons (ps_set (i := 1) sc_exact_size.nd rfl (by first | exact Or.inl rfl | exact Or.inr rfl) (pe_meth0 (pv 0) T.cl_Stock T.m_Stock_bores G_Stock_bores (hr.mono (by decide)) b_Stock_bores .nil pass0))
  (pss_cons (ps_for PassesOwn.never rfl (pi_listK (K := K) rfl (pe_meth0 (pv 0) T.cl_Stock T.m_Stock_pins G_Stock_pins (hr.mono (by decide)) b_Stock_pins .nil pass0)) (pg_name (i := 2) sc_exact_size.nd rfl (by first | exact Or.inl rfl | exact Or.inr rfl))
  (pss_one (ps_if (pt_cmpR (op_inK (K := K) rfl) (pv 2) (pv 1) (by rfl)) (pss_one (ps_ret (pv 2))) pss_nil)))
  (pss_one (ps_ret (pe_non))))), ?_⟩
    try dsimp only [cxOf, Cx.nox, Cx.wish, List.map]
    refine h.reading fun F As M rs M' o hΦ hL B S hB hA post => ?_
    obtain ⟨t, bs, ps, rfl, rfl, lb, lp, rfl, rfl⟩ := hΦ
    dsimp only at post
    have v0 : ∀ {M : List MC} {E : List (Option Rv)}, E[0]? = some (some (.dat (stkD ad t bs ps))) → EvD K (tVar 0) M E M (.dat (stkD ad t bs ps)) := fun z => ev_var z
    refine q_set S (ev_sbores (v0 rfl)) ?_
    intro F As σ H S
    try simp only [List.set_cons_zero, List.set_cons_succ] at S
    refine' q_forI S (ns := sortI ps) (ev_spins (v0 rfl)) (.inl rfl) (fun i M E => M = [] ∧ (∀ j y, j < i → (sortI ps)[j]? = some y → decide (y ∈ bs) = false) ∧ ∃ x, E = [some (.dat (stkD ad t bs ps)), some (rints (sortI bs)), x]) ⟨rfl, fun j y hj => absurd hj (Nat.not_lt_zero _), _, rfl⟩ (fun i M E h => .inl rfl) ?hb ?hd
    case hd =>
      rintro M E ⟨rfl, hj, x, rfl⟩ F As σ H S
      have e : exO bs ps = none := find_no hj
      rw [e] at post
      try dsimp only
      refine s_ret S (r := .dat .non) (M' := []) ev_non ?_
      intro v F As σ H S r
      exact post _ _ _ _ _ _ _ S rfl r
    case hb =>
      rintro B2 cv i z M E hi ⟨rfl, hj, x, rfl⟩ F As σ H S
      try simp only [List.set_cons_zero, List.set_cons_succ] at S
      refine s_if S (b := decide (z ∈ sortI bs)) (et_test (ev_op (ev_var (r := rint z) rfl) (ev_var (r := rints (sortI bs)) rfl) (od_inI (.inl rfl)))) ?_ ?_
      · intro hc F As σ H S
        have hc : z ∈ bs := mem_sortI.mp (of_decide_eq_true hc)
        have e : exO bs ps = some z := find_at hi (decide_eq_true hc) hj
        rw [e] at post
        refine s_ret (cv S) (r := rint z) (M' := []) (ev_var rfl) ?_
        intro v F As σ H S r
        exact post _ _ _ _ _ _ _ S rfl r
      · intro hc F As σ H S
        have hc : z ∉ bs := fun q => of_decide_eq_false hc (mem_sortI.mpr q)
        refine s_next S ?_
        intro F As σ H S
        refine s_end S ⟨rfl, fun j y hj2 hy => ?_, _, rfl⟩ (Ele.refl _)
        by_cases e : j = i
        · subst e
          rw [hi] at hy
          cases hy
          exact decide_eq_false hc
        · exact hj j y (by omega) hy
def ph_bb (ad : Ad) : List MC → List Rv → List MC → Out → Prop := fun M rs M' o => ∃ t bs ps pin, M = [] ∧ rs = [.dat (stkD ad t bs ps), rint pin] ∧ bs.length ≤ 1000 ∧ ps.length ≤ 1000 ∧ M' = [] ∧ o = .ret (optI (bbO bs ps pin))
abbrev sp_bore_behind (K : PySem.W.Frag) (ad : Ad) : Sp := FSp K (ph_bb ad)
theorem ok_bore_behind {P : Program} {w : World} {K : PySem.W.Frag} {mg : Str → Option Value} {base : Heap} {ad : Ad} {fd : Fd} (T : Txt K mg w ad fd) : FnOk P w K mg base CX0 2 ad.a_bore_behind fd.d_bore_behind ["stock", "pin"] (sp_bore_behind K ad) := by
  have G_Stock_bores := ok_Stock_bores (P := P) (base := base) T
  have b_Stock_bores := T.F_Stock_bores.binds (ps := ["self"]) fun _ _ _ _ _ _ us hl => match us, hl with | [_], _ => rfl
  have G_Stock_pins := ok_Stock_pins (P := P) (base := base) T
  have b_Stock_pins := T.F_Stock_pins.binds (ps := ["self"]) fun _ _ _ _ _ _ us hl => match us, hl with | [_], _ => rfl
  refine L2.Fun.ok (k := 1) T.F_bore_behind sc_bore_behind (fun vs H Q E h => ?_) (fun cdv A outer s H vs Q E hr h => ?_)
  · exact h.len fun M rs M' o ⟨_, _, _, _, _, e, _⟩ => by rw [e]; rfl
  · have hu := hu_of hr
    refine ⟨_, (pss_cons (ps_set (i := 2) sc_bore_behind.nd rfl (by first | exact Or.inl rfl | exact Or.inr rfl) (pe_lc rfl sc_bore_behind.nd (pi_listK (K := K) rfl (pe_meth0 (pv 0) T.cl_Stock T.m_Stock_bores G_Stock_bores (hr.mono (by decide)) b_Stock_bores .nil pass0)) (blkOk_by (own := [("size", 3)]) (N := N_bore_behind) (sc := defScope s_bore_behind) (by decide +kernel)) (fun _ _ _ _ _ => (pg_name (i := 3) sc_bore_behind.nd rfl (by first | exact Or.inl rfl | exact Or.inr rfl))) (fun _ _ _ _ _ => (pts_one (pt_cmpR op_gt (pv 3) (pv 1) (nomark _)))) (fun _ _ _ _ _ => (pv 3))))
  (pss_cons (ps_if (pt_cmpR op_eq (pe_callB (call_lenK (K := K) rfl) (by rfl) T.n_len (by decide +kernel) (pa_cons (pv 2) pa_nil)) (pe_int) (nomark _)) (pss_one (ps_ret (pe_non))) pss_nil)
  (pss_cons (ps_setLc (i := 4) rfl sc_bore_behind.nd rfl rfl (sw_true rfl rfl rfl (by decide +kernel)) (pi_listK (K := K) rfl (pe_meth0 (pv 0) T.cl_Stock T.m_Stock_pins G_Stock_pins (hr.mono (by decide)) b_Stock_pins .nil pass0)) (blkOk_by (own := [("size", 3)]) (N := N_bore_behind) (sc := defScope s_bore_behind) (by decide +kernel)) (fun _ _ _ _ _ => (pg_name (i := 3) sc_bore_behind.nd rfl (by first | exact Or.inl rfl | exact Or.inr rfl))) (fun _ _ _ _ _ => (pts_one (pt_chain op_lt op_le (pv 1) (pv 3) (pe_ix (ix_listK (K := K) rfl) (pv 2) (pe_int) (fun _ _ => rfl))))) (fun _ _ _ _ _ => (pv 3)))
  (pss_cons (ps_if (pt_cmpR op_gt (pe_callB (call_lenK (K := K) rfl) (by rfl) T.n_len (by decide +kernel) (pa_cons (pv 4) pa_nil)) (pe_int) (nomark _)) (pss_one (ps_ret (pe_non))) pss_nil)
  (pss_one (ps_ret (pe_ix (ix_listK (K := K) rfl) (pv 2) (pe_int) (fun _ _ => rfl)))))))), ?_⟩
    try dsimp only [cxOf, Cx.nox, Cx.wish, List.map]
    refine h.reading fun F As M rs M' o hΦ hL B S hB hA post => ?_
    obtain ⟨t, bs, ps, pin, rfl, rfl, lb, lp, rfl, rfl⟩ := hΦ
    dsimp only at post
    have v0 : ∀ {M : List MC} {E : List (Option Rv)}, E[0]? = some (some (.dat (stkD ad t bs ps))) → EvD K (tVar 0) M E M (.dat (stkD ad t bs ps)) := fun z => ev_var z
    have l1 := sortI_length bs
    have l2 := sortI_length ps
    unfold bbO at post
    refine q_set S (r := rints ((sortI bs).filter fun z => decide (pin < z))) (M' := []) (ev_is (ev_lcLII (ns := sortI bs) (fun z => decide (pin < z)) (fun z => z) (ev_sbores (v0 rfl)) (by omega) (fun z hz => et_test (ev_op (ev_var (r := rint z) rfl) (ev_var (r := rint pin) rfl) od_bool)) (fun z hz _ => ev_var rfl)) (by rw [List.map_id'])) ?_
    intro F As σ H S
    try simp only [List.set_cons_zero, List.set_cons_succ] at S
    generalize ((sortI bs).filter fun z => decide (pin < z)) = Bs at S post
    cases Bs with
    | nil =>
      refine q_if S (b := true) (et_is (et_test (ev_op (ev_cb (ea_cons (ev_var (r := rints []) rfl) ea_nil) (cd_lenI (.inl rfl))) ev_int od_eqI)) (decide_eq_true rfl)) ?_ (fun hc => by cases hc)
      intro _ F As σ H S
      refine s_ret S (r := .dat .non) (M' := []) ev_non ?_
      intro v F As σ H S r
      exact post _ _ _ _ _ _ _ S rfl r
    | cons b Bs =>
      dsimp only at post
      refine q_if S (b := false) (et_is (et_test (ev_op (ev_cb (ea_cons (ev_var (r := rints (b :: Bs)) rfl) ea_nil) (cd_lenI (.inl rfl))) ev_int od_eqI)) (decide_eq_false (by rw [List.length_cons]; omega))) (fun hc => by cases hc) ?_
      intro _ F As σ H S
      refine s_next S ?_
      intro F As σ H S
      have b0 : ∀ {M : List MC} {E : List (Option Rv)}, E[2]? = some (some (rints (b :: Bs))) → EvD K _ M E M (rint b) := fun z => ev_is (ev_op (ev_var z) ev_int (od_ixI (i := 0) (.inl rfl) (Int.le_refl _) (by rw [List.length_cons]; omega))) (show _ = rint b from rfl)
      refine q_set S (r := rints ((sortI ps).filter fun z => decide (pin < z) && decide (z ≤ b))) (M' := []) (ev_is (ev_lcLII (ns := sortI ps) (fun z => decide (pin < z) && decide (z ≤ b)) (fun z => z) (ev_spins (v0 rfl)) (by omega) (fun z hz => et_test (ev_chain3 (ev_var (r := rint pin) rfl) (ev_var (r := rint z) rfl) od_bool (fun _ => b0 rfl) (fun _ => od_bool))) (fun z hz _ => ev_var rfl)) (by rw [List.map_id'])) ?_
      intro F As σ H S
      try simp only [List.set_cons_zero, List.set_cons_succ] at S
      generalize ((sortI ps).filter fun z => decide (pin < z) && decide (z ≤ b)) = Ps at S post
      by_cases c : Ps = []
      · subst c
        rw [if_pos rfl] at post
        refine q_if S (b := false) (et_is (et_test (ev_op (ev_cb (ea_cons (ev_var (r := rints []) rfl) ea_nil) (cd_lenI (.inl rfl))) ev_int od_bool)) (decide_eq_false (by decide))) (fun hc => by cases hc) ?_
        intro _ F As σ H S
        refine s_next S ?_
        intro F As σ H S
        refine s_ret S (r := rint b) (M' := []) (b0 rfl) ?_
        intro v F As σ H S r
        exact post _ _ _ _ _ _ _ S rfl r
      · rw [if_neg c] at post
        have hl : 0 < Ps.length := List.length_pos_iff.mpr c
        refine q_if S (b := true) (et_is (et_test (ev_op (ev_cb (ea_cons (ev_var (r := rints Ps) rfl) ea_nil) (cd_lenI (.inl rfl))) ev_int od_bool)) (decide_eq_true (by omega))) ?_ (fun hc => by cases hc)
        intro _ F As σ H S
        refine s_ret S (r := .dat .non) (M' := []) ev_non ?_
        intro v F As σ H S r
        exact post _ _ _ _ _ _ _ S rfl r
theorem ev_lcR2A {K : PySem.W.Frag} {te : TE} {M M1 : List MC} {E : List (Option Rv)} {t : TA} {j : Nat} {a n : Int} (f : Nat → D) (ha : EvA K t M E M1 [rint a, rint n]) (hn : -8000000 ≤ n ∧ n ≤ 8000000 ∧ -8000000 ≤ a ∧ a ≤ 8000000) (he : ∀ i : Nat, a + (i : Int) < n → EvD K te M1 (E.set j (some (rint (a + (i : Int))))) M1 (.dat (f i))) :
    EvD K (tLc (iRng2 t) (gName j) tYes te [j]) M E M1 (.dat (.lst ((List.range (n - a).toNat).map f))) := by
  have h := ev_lcR2 (tt := tYes) (te := te) (j := j) (fun _ => M1) (fun _ => true) f ha hn rfl fun i hi => LcT.plain (he i hi)
  rwa [givD_all] at h
theorem rbls_arr (n : Nat) (f : Nat → Bool) : (Rv.dat (.lst ((List.range n).map fun k => D.bl (f k)))) = .dat (.lst (((List.range n).map f).map D.bl)) := by rw [List.map_map]; rfl
def ph_step (ad : Ad) : List MC → List Rv → List MC → Out → Prop := fun M rs M' o => ∃ t bs ps row d, M = [] ∧ rs = [.dat (stkD ad t bs ps), .dat d] ∧ (d = .lst (row.map D.int) ∨ d = .tup (row.map D.int)) ∧ (1 ≤ t ∧ t ≤ 60) ∧ Sz t bs ∧ Sz t ps ∧ bs.length ≤ 1000 ∧ ps.length ≤ 1000 ∧ row.length = t.toNat ∧ M' = [] ∧ o = .ret (optP (stepV t bs ps row))
abbrev sp_step (K : PySem.W.Frag) (ad : Ad) : Sp := FSp K (ph_step ad)
theorem ok_step {P : Program} {w : World} {K : PySem.W.Frag} {mg : Str → Option Value} {base : Heap} {ad : Ad} {fd : Fd} (T : Txt K mg w ad fd) : FnOk P w K mg base CX0 3 ad.a_step fd.d_step ["stock", "row"] (sp_step K ad) := by
  have G_Stock_pins := ok_Stock_pins (P := P) (base := base) T
  have b_Stock_pins := T.F_Stock_pins.binds (ps := ["self"]) fun _ _ _ _ _ _ us hl => match us, hl with | [_], _ => rfl
  have G_Stock_skyline := ok_Stock_skyline (P := P) (base := base) T
  have b_Stock_skyline := T.F_Stock_skyline.binds (ps := ["self"]) fun _ _ _ _ _ _ us hl => match us, hl with | [_], _ => rfl
  have G_bore_behind := ok_bore_behind (P := P) (base := base) T
  have b_bore_behind := T.F_bore_behind.binds (ps := ["stock", "pin"]) fun _ _ _ _ _ _ us hl => match us, hl with | [_, _], _ => rfl
  have G_exact_size := ok_exact_size (P := P) (base := base) T
  have b_exact_size := T.F_exact_size.binds (ps := ["stock"]) fun _ _ _ _ _ _ us hl => match us, hl with | [_], _ => rfl
  refine L2.Fun.ok (k := 2) T.F_step sc_step (fun vs H Q E h => ?_) (fun cdv A outer s H vs Q E hr h => ?_)
  · exact h.len fun M rs M' o ⟨_, _, _, _, _, _, e, _⟩ => by rw [e]; rfl
  · have hu := hu_of hr
    refine ⟨_, (pss_cons (ps_set (i := 2) sc_step.nd rfl (by first | exact Or.inl rfl | exact Or.inr rfl) (pe_meth0 (pv 0) T.cl_Stock T.m_Stock_skyline G_Stock_skyline (hr.mono (by decide)) b_Stock_skyline .nil pass0))
  (pss_cons (ps_for PassesOwn.never rfl (pi_range1 (by rfl) T.n_range (pa_cons (pe_callB (call_lenK (K := K) rfl) (by rfl) T.n_len (by decide +kernel) (pa_cons (pv 2) pa_nil)) pa_nil)) (pg_name (i := 3) sc_step.nd rfl (by first | exact Or.inl rfl | exact Or.inr rfl))
  (pss_one (ps_if (pt_cmpR op_gt (pe_op op_sub (pe_ix (ix_listK (K := K) rfl) (pv 2) (pv 3) (fun _ _ => rfl)) (pe_int)) (pe_ix (ix_seqK (K := K) rfl) (pv 1) (pv 3) (fun _ _ => rfl)) (nomark _)) (pss_one (ps_ret (pe_non))) pss_nil)))
  (pss_cons (ps_set (i := 4) sc_step.nd rfl (by first | exact Or.inl rfl | exact Or.inr rfl) (pe_call G_exact_size (hr.mono (by first | decide | omega)) rfl T.g_exact_size T.F_exact_size.kp b_exact_size .nil pass0 (pa_cons (pv 0) pa_nil)))
  (pss_cons (ps_if (pt_cmp (pc_notN (pv 4))) (pss_one (ps_ret (pe_tup (pa_cons (pv 4) (pa_cons (pv 4) pa_nil))))) pss_nil)
  (pss_cons (ps_for PassesOwn.never rfl (pi_listK (K := K) rfl (pe_meth0 (pv 0) T.cl_Stock T.m_Stock_pins G_Stock_pins (hr.mono (by decide)) b_Stock_pins .nil pass0)) (pg_name (i := 5) sc_step.nd rfl (by first | exact Or.inl rfl | exact Or.inr rfl))
  (pss_cons (ps_set (i := 6) sc_step.nd rfl (by first | exact Or.inl rfl | exact Or.inr rfl) (pe_call G_bore_behind (hr.mono (by first | decide | omega)) rfl T.g_bore_behind T.F_bore_behind.kp b_bore_behind .nil pass0 (pa_cons (pv 0) (pa_cons (pv 5) pa_nil))))
  (pss_one (ps_if (PW.pt (pw_and (pt_cmp (pc_notN (pv 6))) (pw_and1 (pt_val (pe_callB (cr_allK (K := K) rfl rfl) (by rfl) T.n_all (by decide +kernel) (pa_cons (pe_lc rfl sc_step.nd (pi_range2 (by rfl) T.n_range (pa_cons (pv 5) (pa_cons (pv 6) pa_nil))) (blkOk_by (own := [("at", 3)]) (N := N_step) (sc := defScope s_step) (by decide +kernel)) (fun _ _ _ _ _ => (pg_name (i := 3) sc_step.nd rfl (by first | exact Or.inl rfl | exact Or.inr rfl))) (fun _ _ _ _ _ => pts_nil) (fun _ _ _ _ _ => (pe_cmpR op_le (pe_ix (ix_listK (K := K) rfl) (pv 2) (pv 3) (fun _ _ => rfl)) (pe_ix (ix_seqK (K := K) rfl) (pv 1) (pv 3) (fun _ _ => rfl)) (nomark _)))) pa_nil)))))) (pss_one (ps_ret (pe_tup (pa_cons (pv 5) (pa_cons (pv 6) pa_nil))))) pss_nil))))
  (pss_one (ps_ret (pe_non)))))))), ?_⟩
    try dsimp only [cxOf, Cx.nox, Cx.wish, List.map]
    refine h.reading fun F As M rs M' o hΦ hL B S hB hA post => ?_
    obtain ⟨t, bs, ps, row, d, rfl, rfl, hd, ht, sb, sp, lb, lp, lr, rfl, rfl⟩ := hΦ
    dsimp only at post
    have v0 : ∀ {M : List MC} {E : List (Option Rv)}, E[0]? = some (some (.dat (stkD ad t bs ps))) → EvD K (tVar 0) M E M (.dat (stkD ad t bs ps)) := fun z => ev_var z
    have ls := sky_len (t := t) (bs := bs) (ps := ps)
    have rw1 : ∀ {te : TE} {k : Int} {M : List MC} {E : List (Option Rv)}, E[1]? = some (some (.dat d)) → EvD K te M E M (rint k) → 0 ≤ k → k < t → EvD K (tOp (rIx K) (tVar 1) te) M E M (rint (gI row k)) := fun {te k M E} z1 hk h0 h1 => ev_op (ev_var z1) hk (by
      rcases hd with rfl | rfl
      · exact od_ixD (.inl rfl) (gI_at h0 (by omega))
      · exact od_ixDT (gI_at h0 (by omega)))
    refine q_set S (ev_ssky (v0 rfl) ⟨by omega, by omega⟩ sb sp) ?_
    intro F As σ H S
    try simp only [List.set_cons_zero, List.set_cons_succ] at S
    refine' q_forR1 S (n := (t.toNat : Int)) (ea_cons (ev_is (ev_cb (ea_cons (ev_var (r := rints (skyR t bs ps)) rfl) ea_nil) (cd_lenI (.inl rfl))) (by rw [ls])) ea_nil) (by omega) (fun i M E => M = [] ∧ (∀ k : Nat, k < i → ¬ gI row (k : Int) < gI (skyR t bs ps) (k : Int) - 1) ∧ ∃ x y z u, E = [some (.dat (stkD ad t bs ps)), some (.dat d), some (rints (skyR t bs ps)), x, y, z, u]) ⟨rfl, fun k hk => absurd hk (Nat.not_lt_zero _), _, _, _, _, rfl⟩ ?hb ?hd
    case hb =>
      rintro i M E hi ⟨rfl, ok, x, y, z, u, rfl⟩ F As σ H S
      try simp only [List.set_cons_zero, List.set_cons_succ] at S
      refine s_if S (b := decide (gI row (i : Int) < gI (skyR t bs ps) (i : Int) - 1)) (et_test (ev_op (ev_op (ev_op (ev_var (r := rints (skyR t bs ps)) rfl) (ev_var (r := rint (i : Int)) rfl) (od_ixI (.inl rfl) (by omega) (by omega))) ev_int od_int) (rw1 rfl (ev_var (r := rint (i : Int)) rfl) (by omega) (by omega)) od_bool)) ?_ ?_
      · intro hc F As σ H S
        have e : stepV t bs ps row = none := if_pos ⟨i, by omega, of_decide_eq_true hc⟩
        rw [e] at post
        refine s_ret S (r := .dat .non) (M' := []) ev_non ?_
        intro v F As σ H S r
        exact post _ _ _ _ _ _ _ S rfl r
      · intro hc F As σ H S
        refine s_next S ?_
        intro F As σ H S
        refine s_end S ⟨rfl, fun k hk => ?_, _, _, _, _, rfl⟩ (Ele.refl _)
        by_cases e : k = i
        · subst e; exact of_decide_eq_false hc
        · exact ok k (by omega)
    case hd =>
    rintro M E ⟨rfl, ok, x, y, z, u, rfl⟩ F As σ H S
    rw [Int.toNat_natCast] at ok
    have hlow : ¬ Low t bs ps row := fun ⟨k, hk, hh⟩ => ok k hk hh
    refine q_set S (r := .dat (optI (exO bs ps))) (M' := []) (ev_call0 (ea_cons (v0 rfl) ea_nil) (by intro z; cases z) ⟨t, bs, ps, rfl, rfl, lb, lp, rfl, rfl⟩) ?_
    intro F As σ H S
    try simp only [List.set_cons_zero, List.set_cons_succ] at S
    cases hx : exO bs ps with
    | some s =>
      have e : stepV t bs ps row = some (s, s) := by
        unfold stepV
        rw [if_neg hlow, hx]
      rw [e] at post
      rw [hx] at S
      refine q_if S (b := true) (et_B (ev_is (ev_notN (ev_var (r := rint s) rfl)) rfl)) ?_ (fun hc => by cases hc)
      intro _ F As σ H S
      refine s_ret S (r := .dat (pairD (s, s))) (M' := []) (ev_tup (rs := [rint s, rint s]) (ea_cons (ev_var rfl) (ea_cons (ev_var rfl) ea_nil)) rfl (Nat.le_of_ble_eq_true rfl)) ?_
      intro v F As σ H S r
      exact post _ _ _ _ _ _ _ S rfl r
    | none =>
    rw [hx] at S
    refine q_if S (b := false) (et_B (ev_is (ev_notN (ev_var (r := .dat .non) rfl)) rfl)) (fun hc => by cases hc) ?_
    intro _ F As σ H S
    refine s_next S ?_
    intro F As σ H S
    refine' q_forI S (ns := sortI ps) (ev_spins (v0 rfl)) (.inl rfl) (fun i M E => M = [] ∧ (∀ j y, j < i → (sortI ps)[j]? = some y → okB t bs ps row y = false) ∧ ∃ x z u, E = [some (.dat (stkD ad t bs ps)), some (.dat d), some (rints (skyR t bs ps)), x, some (.dat .non), z, u]) ⟨rfl, fun j y hj => absurd hj (Nat.not_lt_zero _), _, _, _, rfl⟩ (fun i M E h => .inl rfl) ?cb ?cd
    case cd =>
      rintro M E ⟨rfl, hj, x, z, u, rfl⟩ F As σ H S
      have e : stepV t bs ps row = none := by
        unfold stepV
        rw [if_neg hlow, hx]
        dsimp only
        rw [find_no hj]
      rw [e] at post
      try dsimp only
      refine s_ret S (r := .dat .non) (M' := []) ev_non ?_
      intro v F As σ H S r
      exact post _ _ _ _ _ _ _ S rfl r
    case cb =>
      rintro B2 cv i pin M E hi ⟨rfl, hj, x, z, u, rfl⟩ F As σ H S
      try simp only [List.set_cons_zero, List.set_cons_succ] at S
      have hpin := sp pin (mem_sortI.mp (List.mem_of_getElem? hi))
      refine q_set S (r := .dat (optI (bbO bs ps pin))) (M' := []) (ev_call0 (ea_cons (v0 rfl) (ea_cons (ev_var (r := rint pin) rfl) ea_nil)) (by intro z; cases z) ⟨t, bs, ps, pin, rfl, rfl, lb, lp, rfl, rfl⟩) ?_
      intro F As σ H S
      try simp only [List.set_cons_zero, List.set_cons_succ] at S
      have step1 : ∀ (hn : okB t bs ps row pin = false), ∀ j y, j < i + 1 → (sortI ps)[j]? = some y → okB t bs ps row y = false := fun hn j y hj2 hy => by
        by_cases e : j = i
        · subst e
          rw [hi] at hy
          cases hy
          exact hn
        · exact hj j y (by omega) hy
      cases hbb : bbO bs ps pin with
      | none =>
        rw [hbb] at S
        have hn : okB t bs ps row pin = false := by unfold okB; rw [hbb]
        refine s_if S (b := false) (et_is (et_and (b := false) (c := false) (et_B (ev_is (ev_notN (ev_var (r := .dat .non) rfl)) rfl)) (fun z => by cases z)) rfl) (fun hc => by cases hc) ?_
        intro _ F As σ H S
        refine s_next S ?_
        intro F As σ H S
        exact s_end S ⟨rfl, step1 hn, _, _, _, rfl⟩ (Ele.refl _)
      | some b =>
        rw [hbb] at S
        obtain ⟨m1, m2, _, _⟩ := bbO_spec.mp hbb
        have hbt := sb b m1
        have hok : okB t bs ps row pin = ((List.range (b - pin).toNat).map fun (k : Nat) => decide (gI (skyR t bs ps) (pin + (k : Int)) ≤ gI row (pin + (k : Int)))).all id := by unfold okB; rw [hbb]
        refine s_if S (b := okB t bs ps row pin) (et_is (et_and (b := true) (et_B (ev_is (ev_notN (ev_var (r := rint b) rfl)) rfl)) (fun _ => et_B (ev_cb (ea_cons (ev_is (ev_lcR2A (a := pin) (n := b) (fun k => D.bl (decide (gI (skyR t bs ps) (pin + (k : Int)) ≤ gI row (pin + (k : Int))))) (ea_cons (ev_var (r := rint pin) rfl) (ea_cons (ev_var (r := rint b) rfl) ea_nil)) ⟨by omega, by omega, by omega, by omega⟩ fun k hk => ev_op (ev_op (ev_var (r := rints (skyR t bs ps)) rfl) (ev_var (r := rint (pin + (k : Int))) rfl) (od_ixI (.inl rfl) (by omega) (by omega))) (rw1 rfl (ev_var (r := rint (pin + (k : Int))) rfl) (by omega) (by omega)) od_bool) (rbls_arr _ _)) ea_nil) (cd_all (.inl rfl))))) (by rw [hok]; rfl)) ?_ ?_
        · intro hc F As σ H S
          have e : stepV t bs ps row = some (pin, b) := by
            unfold stepV
            rw [if_neg hlow, hx]
            dsimp only
            rw [find_at hi hc hj]
            dsimp only
            rw [hbb]; rfl
          rw [e] at post
          refine s_ret (cv S) (r := .dat (pairD (pin, b))) (M' := []) (ev_tup (rs := [rint pin, rint b]) (ea_cons (ev_var rfl) (ea_cons (ev_var rfl) ea_nil)) rfl (Nat.le_of_ble_eq_true rfl)) ?_
          intro v F As σ H S r
          exact post _ _ _ _ _ _ _ S rfl r
        · intro hc F As σ H S
          refine s_next S ?_
          intro F As σ H S
          exact s_end S ⟨rfl, step1 hc, _, _, _, rfl⟩ (Ele.refl _)
end K09
set_option Elab.async false
set_option linter.all false
set_option maxRecDepth 100000
set_option maxHeartbeats 4000000
namespace K09
open PySem L2 DL
/-! ### the steps: one rule an expression, by its reading's head -/
local macro_rules | `(tactic| wtm_at "ev") => `(tactic| first
  | exact ev_var rfl
  | exact ev_int
  | exact ev_non
  | exact ev_bl
  | exact ev_str
  | exact ea_nil
  | with_reducible apply ea_cons
  | ((with_reducible refine' ev_isi ?a ?b ?c); (case' a => repeat' wtm_at "ev"); (case' b => exact rfl); (case' c => exact rfl))
  | with_reducible apply ev_cb
  | with_reducible apply ev_op
  | with_reducible apply ev_un
  | with_reducible apply et_test
  | with_reducible apply et_B
  | with_reducible apply et_not
  | with_reducible apply ev_isN
  | with_reducible apply ev_notN
  | with_reducible apply ev_notV
  | with_reducible apply et_and
  | with_reducible apply et_or
  | with_reducible apply ev_andV
  | with_reducible apply ev_orV
  | with_reducible apply ev_ifI
  | with_reducible apply ev_ifD
  | ((with_reducible refine' ev_dnotin ?a ?b ?c ?d); (case' a => repeat' wtm_at "ev"); (case' b => repeat' wtm_at "ev"); (case' c => exact rfl); (case' d => first | exact .inl rfl | exact .inr ⟨_, rfl, rfl⟩))
  | ((with_reducible refine' ev_din ?a ?b ?c ?d); (case' a => repeat' wtm_at "ev"); (case' b => repeat' wtm_at "ev"); (case' c => exact rfl); (case' d => first | exact .inl rfl | exact .inr ⟨_, rfl, rfl⟩))
  | with_reducible apply ev_lcLAI
  | with_reducible apply ev_lcLII
  | with_reducible apply ev_lcLA
  | with_reducible apply ev_lcLI
  | with_reducible apply ev_lcRAI
  | with_reducible apply ev_lcRI
  | with_reducible apply ev_lcRA
  | with_reducible apply ev_lcR
  | exact et_yes
  | with_reducible intro _
  | exact od_int
  | exact od_bool
  | exact od_eqI
  | exact od_neI
  | exact od_eqS
  | exact od_neS
  | exact ud_neg
  | exact cd_abs
  | exact cd_max2
  | exact cd_min2
  | exact cd_int
  | exact cd_intB
  | exact cd_lenScr
  | exact cd_lenT
  | exact cd_lenI (.inl rfl)
  | exact cd_lenI (.inr ⟨_, rfl, rfl⟩)
  | exact cd_len (.inl rfl)
  | exact cd_len (.inr ⟨_, rfl, rfl⟩)
  | exact cd_lenD (.inl rfl)
  | exact cd_lenD (.inr ⟨_, rfl, rfl⟩)
  | exact cd_sum (.inl rfl)
  | exact cd_sorted (.inl rfl)
  | exact cd_list (.inl rfl)
  | exact cd_listT
  | exact eo_none
  | with_reducible apply eo_some
  | with_reducible apply ev_sliceScr
  | refine' ev_sliceI ?_ ?_ ?_ (.inl rfl)
  | with_reducible apply od_intC
  | with_reducible apply od_ixScr
  | refine' od_ixI (.inl rfl) ?_ ?_
  | refine' od_ixI (.inr ⟨_, rfl, rfl⟩) ?_ ?_
  | exact od_ixT rfl
  | exact od_inI (.inl rfl)
  | exact od_notinI (.inl rfl)
  | refine' od_cat (.inl rfl) (.inl rfl) ?_
  | ((with_reducible refine' ev_tup ?h ?r ?l); (case' h => repeat' wtm_at "ev"); (case' r => exact rfl); (case' l => exact Nat.le_of_ble_eq_true rfl))
  | (refine (show CMul _ _ from .inl ⟨?_, ?_⟩) <;> decide)
  | (refine (show CMul _ _ from .inr ⟨?_, ?_⟩) <;> decide)
  | (refine (show (_ : Prop) from ?_); assumption)
  | (refine (show CDiv _ _ from ⟨?_, ?_⟩) <;> omega)
  | (refine (show CPow _ _ from ⟨?_, ?_, ?_⟩) <;> decide)
  | omega
  | (simp only [Pz.len]; done)
  | (simp only [Pz.len, List.length_map, List.length_append, List.length_range, List.length_set, List.length_reverse]; omega))
/-! a statement's step: its values are reckoned, what is left is the way on -/
local macro_rules | `(tactic| wtm_at "st") => `(tactic| first
  | (refine' q_set (by assumption) ?h ?k; (case' h => repeat' wtm_at "ev"); (case' k => (intro _ _ _ _ _; try dsimp only)))
  | (refine' s_set (by assumption) ?h ?k; (case' h => repeat' wtm_at "ev"); (case' k => (intro _ _ _ _ _; try dsimp only)))
  | (refine' q_augS (by assumption) ?h1 ?h2 ?h3 ?r1 ?r2 ?s1 ?s2 ?k; (case' h1 => repeat' wtm_at "ev"); (case' h2 => repeat' wtm_at "ev"); (case' h3 => repeat' wtm_at "ev"); (case' r1 => exact rfl); (case' r2 => exact rfl); (case' s1 => try wtm_at "ev"); (case' s2 => try wtm_at "ev"); (case' k => (intro _ _ _ _ _; try dsimp only)))
  | (refine' s_augS (by assumption) ?h1 ?h2 ?h3 ?r1 ?r2 ?s1 ?s2 ?k; (case' h1 => repeat' wtm_at "ev"); (case' h2 => repeat' wtm_at "ev"); (case' h3 => repeat' wtm_at "ev"); (case' r1 => exact rfl); (case' r2 => exact rfl); (case' s1 => try wtm_at "ev"); (case' s2 => try wtm_at "ev"); (case' k => (intro _ _ _ _ _; try dsimp only)))
  | (refine' q_setLI (by assumption) ?h ?h1 ?h2 ?r1 ?s1 ?s2 ?k; (case' h => repeat' wtm_at "ev"); (case' h1 => repeat' wtm_at "ev"); (case' h2 => repeat' wtm_at "ev"); (case' r1 => exact rfl); (case' s1 => try wtm_at "ev"); (case' s2 => try wtm_at "ev"); (case' k => (intro _ _ _ _ _; try dsimp only)))
  | (refine' q_setL (by assumption) ?h ?h1 ?h2 ?r1 ?s1 ?s2 ?k; (case' h => repeat' wtm_at "ev"); (case' h1 => repeat' wtm_at "ev"); (case' h2 => repeat' wtm_at "ev"); (case' r1 => exact rfl); (case' s1 => try wtm_at "ev"); (case' s2 => try wtm_at "ev"); (case' k => (intro _ _ _ _ _; try dsimp only)))
  | (refine' s_setLI (by assumption) ?h ?h1 ?h2 ?r1 ?s1 ?s2 ?k; (case' h => repeat' wtm_at "ev"); (case' h1 => repeat' wtm_at "ev"); (case' h2 => repeat' wtm_at "ev"); (case' r1 => exact rfl); (case' s1 => try wtm_at "ev"); (case' s2 => try wtm_at "ev"); (case' k => (intro _ _ _ _ _; try dsimp only)))
  | (refine' s_setL (by assumption) ?h ?h1 ?h2 ?r1 ?s1 ?s2 ?k; (case' h => repeat' wtm_at "ev"); (case' h1 => repeat' wtm_at "ev"); (case' h2 => repeat' wtm_at "ev"); (case' r1 => exact rfl); (case' s1 => try wtm_at "ev"); (case' s2 => try wtm_at "ev"); (case' k => (intro _ _ _ _ _; try dsimp only)))
  | (refine' q_appI (by assumption) ?h1 ?h ?r1 ?r2 ?s ?k; (case' h1 => repeat' wtm_at "ev"); (case' h => repeat' wtm_at "ev"); (case' r1 => exact rfl); (case' r2 => exact rfl); (case' s => try wtm_at "ev"); (case' k => (intro _ _ _ _ _; try dsimp only)))
  | (refine' q_app (by assumption) ?h1 ?h ?r1 ?r2 ?s ?k; (case' h1 => repeat' wtm_at "ev"); (case' h => repeat' wtm_at "ev"); (case' r1 => exact rfl); (case' r2 => exact rfl); (case' s => try wtm_at "ev"); (case' k => (intro _ _ _ _ _; try dsimp only)))
  | (refine' s_appI (by assumption) ?h1 ?h ?r1 ?r2 ?s ?k; (case' h1 => repeat' wtm_at "ev"); (case' h => repeat' wtm_at "ev"); (case' r1 => exact rfl); (case' r2 => exact rfl); (case' s => try wtm_at "ev"); (case' k => (intro _ _ _ _ _; try dsimp only)))
  | (refine' s_app (by assumption) ?h1 ?h ?r1 ?r2 ?s ?k; (case' h1 => repeat' wtm_at "ev"); (case' h => repeat' wtm_at "ev"); (case' r1 => exact rfl); (case' r2 => exact rfl); (case' s => try wtm_at "ev"); (case' k => (intro _ _ _ _ _; try dsimp only)))
  | (refine' q_dput (by assumption) ?h ?h1 ?h2 ?r1 ?r2 ?s ?k; (case' h => repeat' wtm_at "ev"); (case' h1 => repeat' wtm_at "ev"); (case' h2 => repeat' wtm_at "ev"); (case' r1 => exact rfl); (case' r2 => exact rfl); (case' s => try wtm_at "ev"); (case' k => (intro _ _ _ _ _; try dsimp only)))
  | (refine' s_dput (by assumption) ?h ?h1 ?h2 ?r1 ?r2 ?s ?k; (case' h => repeat' wtm_at "ev"); (case' h1 => repeat' wtm_at "ev"); (case' h2 => repeat' wtm_at "ev"); (case' r1 => exact rfl); (case' r2 => exact rfl); (case' s => try wtm_at "ev"); (case' k => (intro _ _ _ _ _; try dsimp only)))
  | (refine' q_tup2 (by assumption) ?h ?k; (case' h => repeat' wtm_at "ev"); (case' k => (intro _ _ _ _ _; try dsimp only)))
  | (refine' q_drop (by assumption) ?h ?k; (case' h => repeat' wtm_at "ev"); (case' k => (intro _ _ _ _ _; try dsimp only)))
  | (refine' q_if (by assumption) ?h ?k1 ?k2; (case' h => repeat' wtm_at "ev"))
  | (refine' s_if (by assumption) ?h ?k1 ?k2; (case' h => repeat' wtm_at "ev"))
  | (refine' s_ret (by assumption) ?h ?k; (case' h => repeat' wtm_at "ev"); (case' k => (intro _ _ _ _ _ _ _; try dsimp only)))
  | (refine' q_ret (by assumption) ?h ?k; (case' h => repeat' wtm_at "ev"); (case' k => (intro _ _ _ _ _ _ _; try dsimp only)))
  | ((with_reducible refine' s_next (by assumption) ?k); (case' k => (intro _ _ _ _ _; try dsimp only)))
  | (with_reducible refine q_next ?_))

theorem bel_cons (x : Int) (bs : List Int) (e : Int) : belV (x :: bs) e = (if x < e then 1 else 0) + belV bs e := by
  unfold belV
  rw [fl_cons]
  by_cases c : x < e <;> simp [c]
theorem abv_cons (x : Int) (bs : List Int) (e : Int) : abvV (x :: bs) e = (if e ≤ x then 1 else 0) + abvV bs e := by
  unfold abvV
  rw [fl_cons]
  by_cases c : e ≤ x <;> simp [c]
theorem bel_abv (e : Int) : ∀ xs : List Int, belV xs e + abvV xs e = xs.length
  | [] => rfl
  | x :: xs => by
    have ih := bel_abv e xs
    rw [bel_cons, abv_cons, List.length_cons]
    split <;> split <;> omega
theorem cnt_cons (x : Int) (bs : List Int) (z : Int) : cntV (x :: bs) z = (if x = z then 1 else 0) + cntV bs z := by
  unfold cntV
  rw [fl_cons]
  by_cases c : x = z <;> simp [c]
theorem cnt_count (bs : List Int) (z : Int) : cntV bs z = (bs.count z : Nat) := by
  unfold cntV
  rw [List.count, List.countP_eq_length_filter]
  congr 2
theorem perm_cnt {as bs : List Int} (h : ∀ z, cntV as z = cntV bs z) : as.Perm bs := List.perm_iff_count.mpr fun z => by
  have := h z
  rw [cnt_count, cnt_count] at this
  omega
theorem cnt_pos {bs : List Int} {z : Int} : z ∈ bs ↔ 0 < cntV bs z := by
  rw [cnt_count]
  exact ⟨fun h => by have := List.count_pos_iff.mpr h; omega, fun h => List.count_pos_iff.mp (by omega)⟩
def trnV (t : Int) (bs ps : List Int) : Int := (arr (t + 1).toNat fun k => absI (wV bs ps ((k : Int) + 1) - wV bs ps (k : Int))).sum
theorem wV_rem {s : Int} {us vs : List Int} (h1 : s ∈ us) (h2 : s ∈ vs) (e : Int) : wV (remI s us) (remI s vs) e = wV us vs e - 1 := by
  have a := bel_perm (remI_perm h1) e
  have b := abv_perm (remI_perm h2) e
  rw [bel_cons] at a
  rw [abv_cons] at b
  unfold wV
  split at a <;> split at b <;> omega
theorem sky_rem {t s : Int} {us vs : List Int} (h1 : s ∈ us) (h2 : s ∈ vs) : skyR t (remI s us) (remI s vs) = (skyR t us vs).map fun z => z - 1 := by
  unfold skyR arr
  rw [List.map_map]
  exact List.map_congr_left fun k _ => wV_rem h1 h2 _
theorem trn_down (xs : List Int) (c : Int) : trn (xs.map fun z => z - c) = trn xs := by
  unfold trn
  rw [List.length_map]
  congr 1
  refine arr_ext fun k hk => ?_
  have g : ∀ i : Nat, i < xs.length → gI (xs.map fun z => z - c) (i : Int) = gI xs (i : Int) - c := fun i hi => by
    show (xs.map fun z => z - c).getD i 0 = xs.getD i 0 - c
    rw [List.getD_eq_getElem?_getD, List.getD_eq_getElem?_getD, List.getElem?_map, List.getElem?_eq_getElem hi]; rfl
  have g1 := g k (by omega)
  have g2 := g (k + 1) (by omega)
  rw [show ((k + 1 : Nat) : Int) = (k : Int) + 1 by omega] at g2
  rw [g1, g2]
  congr 1
  omega
theorem spr_rem {t s : Int} {us vs : List Int} (h1 : s ∈ us) (h2 : s ∈ vs) : sprV t (remI s us) (remI s vs) = sprV t us vs - 1 := by
  have l1 := rem_len h1
  have l2 := rem_len h2
  unfold sprV
  rw [sky_rem h1 h2]
  have e : [((remI s vs).length : Int)] ++ (skyR t us vs).map (fun z => z - 1) ++ [((remI s us).length : Int)] = ([(vs.length : Int)] ++ skyR t us vs ++ [(us.length : Int)]).map fun z => z - 1 := by
    rw [List.map_append, List.map_append, show ((remI s vs).length : Int) = vs.length - 1 by omega, show ((remI s us).length : Int) = us.length - 1 by omega]; rfl
  rw [e, trn_down]
  omega
theorem cnt_sum {t : Int} {bs : List Int} (h : Sz t bs) (h0 : 0 ≤ t) : (arr (t + 1).toNat fun k => cntV bs (k : Int)).sum = bs.length := by
  have z : ∀ i : Nat, (arr i fun k => cntV bs (k : Int)).sum = belV bs (i : Int) := fun i => by
    induction i with
    | zero => exact (bel_zero fun z hz => (h z hz).1).symm
    | succ i ih =>
      rw [arr_snoc, sum_snoc, ih, show ((i + 1 : Nat) : Int) = (i : Int) + 1 by omega, bel_step]
  rw [z, show (((t + 1).toNat : Nat) : Int) = t + 1 by omega, bel_top fun z hz => (h z hz).2]
theorem sum_add (f g : Nat → Int) : ∀ n : Nat, (arr n fun k => f k + g k).sum = (arr n f).sum + (arr n g).sum
  | 0 => rfl
  | n + 1 => by
    rw [arr_snoc, arr_snoc, arr_snoc, sum_snoc, sum_snoc, sum_snoc, sum_add f g n]
    omega
/-! ### what is spare, size by size -/
theorem trn_any {t : Int} {bs ps : List Int} (t0 : 1 ≤ t) (sb : Sz t bs) (sp : Sz t ps) : trn ([(ps.length : Int)] ++ skyR t bs ps ++ [(bs.length : Int)]) = trnV t bs ps := by
  have w0 : wV bs ps 0 = ps.length := by
    unfold wV
    rw [bel_zero fun z hz => (sb z hz).1, abv_zero fun z hz => (sp z hz).1]; omega
  have w1 : wV bs ps (t + 1) = bs.length := by
    unfold wV
    rw [bel_top fun z hz => (sb z hz).2, abv_top fun z hz => (sp z hz).2]; omega
  have e : [(ps.length : Int)] ++ skyR t bs ps ++ [(bs.length : Int)] = arr (t + 2).toNat fun k => wV bs ps (k : Int) := by
    have e1 : arr (t.toNat + 1) (fun k : Nat => wV bs ps (k : Int)) = [(ps.length : Int)] ++ skyR t bs ps := by
      unfold arr skyR arr
      rw [List.range_succ_eq_map, List.map_cons, List.map_map]
      show wV bs ps 0 :: _ = (ps.length : Int) :: _
      rw [w0]
      congr 1
    rw [show (t + 2).toNat = t.toNat + 1 + 1 by omega, arr_snoc, e1]
    congr 1
    show [(bs.length : Int)] = [wV bs ps ((t.toNat + 1 : Nat) : Int)]
    rw [show ((t.toNat + 1 : Nat) : Int) = t + 1 by omega, w1]
  rw [e]
  unfold trn trnV
  rw [arr_len, show (t + 2).toNat - 1 = (t + 1).toNat by omega, arr_ext fun k hk => by
    rw [show (k : Int) + 1 = ((k + 1 : Nat) : Int) by omega, arr_at (f := fun k : Nat => wV bs ps (k : Int)) (by omega), arr_at (f := fun k : Nat => wV bs ps (k : Int)) (by omega)]]
  congr 1
theorem spr_sum {t : Int} {us vs : List Int} (t0 : 1 ≤ t) (sb : Sz t us) (sp : Sz t vs) : sprV t us vs = (arr (t + 1).toNat fun k => comV us vs (k : Int)).sum := by
  unfold sprV
  rw [trn_any t0 sb sp]
  have e : trnV t us vs + ((arr (t + 1).toNat fun k => comV us vs (k : Int)).sum + (arr (t + 1).toNat fun k => comV us vs (k : Int)).sum) = us.length + vs.length := by
    rw [← cnt_sum sb (by omega), ← cnt_sum sp (by omega), ← sum_add, ← sum_add]
    unfold trnV
    rw [← sum_add]
    congr 1
    refine arr_ext fun k hk => ?_
    have a : wV us vs ((k : Int) + 1) - wV us vs (k : Int) = cntV us (k : Int) - cntV vs (k : Int) := by
      unfold wV
      rw [bel_step, abv_step]; omega
    rw [a]
    unfold absI comV
    split <;> split <;> omega
  omega
def exF : List Int → List Int → Int
  | _, [] => 0
  | left, x :: r => if x ∈ left then 1 + exF (remI x left) r else exF left r
theorem sum_zero {n : Nat} {f : Nat → Int} (h : ∀ k, k < n → f k = 0) : (arr n f).sum = 0 := by
  induction n with
  | zero => rfl
  | succ n ih =>
    rw [arr_snoc, sum_snoc, ih fun k hk => h k (by omega), h n (by omega)]; rfl
theorem exF_spr {t : Int} (t0 : 1 ≤ t) : ∀ (ps left : List Int), Sz t left → Sz t ps → exF left ps = sprV t left ps
  | [], left, sl, _ => by
    rw [spr_sum t0 sl (fun z hz => by cases hz)]
    refine (sum_zero fun k hk => ?_).symm
    have := com_le (bs := left) (ps := []) (k := (k : Int))
    have e : cntV [] (k : Int) = 0 := rfl
    omega
  | x :: r, left, sl, sp => by
    have sr : Sz t r := fun z hz => sp z (List.mem_cons_of_mem _ hz)
    unfold exF
    by_cases c : x ∈ left
    · rw [if_pos c, exF_spr t0 r (remI x left) (rem_sz sl) sr]
      have h := spr_rem (t := t) c (List.mem_cons_self (a := x) (l := r))
      have e : remI x (x :: r) = r := by
        unfold remI idxI
        rw [if_pos rfl]; rfl
      rw [e] at h
      omega
    · rw [if_neg c, exF_spr t0 r left sl sr, spr_sum t0 sl sr, spr_sum t0 sl sp]
      congr 1
      refine arr_ext fun k hk => ?_
      unfold comV
      rw [cnt_cons]
      by_cases d : x = (k : Int)
      · have z : cntV left (k : Int) = 0 := by
          have := cnt_nn (bs := left) (e := (k : Int))
          by_cases q : 0 < cntV left (k : Int)
          · exact absurd (cnt_pos.mpr q) (d ▸ c)
          · omega
        have := cnt_nn (bs := r) (e := (k : Int))
        rw [z, if_neg (by omega), if_neg (by split <;> omega)]
      · rw [if_neg d]
        simp
/-! ### which pairs keep a row -/
def Wth (xs ys : List Int) : Prop := ∀ k : Nat, k < xs.length → gI xs (k : Int) ≤ gI ys (k : Int)
def wthB (xs ys : List Int) : Bool := (List.range xs.length).all fun k => decide (gI xs (k : Int) ≤ gI ys (k : Int))
theorem wthB_iff {xs ys : List Int} : wthB xs ys = true ↔ Wth xs ys := by
  unfold wthB Wth
  rw [List.all_eq_true]
  exact ⟨fun h k hk => of_decide_eq_true (h k (List.mem_range.mpr hk)), fun h k hk => decide_eq_true (h k (List.mem_range.mp hk))⟩
theorem wV_give {p b : Int} {bs ps : List Int} (hp : p ∈ ps) (hb : b ∈ bs) (hle : p ≤ b) (e : Int) : wV (remI b bs) (remI p ps) e = wV bs ps e - (if p < e ∧ e ≤ b then 0 else 1) := by
  have a := bel_perm (remI_perm hb) e
  have c := abv_perm (remI_perm hp) e
  rw [bel_cons] at a
  rw [abv_cons] at c
  unfold wV
  split at a <;> split at c <;> split <;> omega
theorem keep_iff {t p b : Int} {bs ps row : List Int} (ht : 1 ≤ t) (hp : p ∈ ps) (hb : b ∈ bs) (hle : p ≤ b) : Wth (skyR t (remI b bs) (remI p ps)) row ↔ ∀ k : Nat, k < t.toNat → wV bs ps ((k : Int) + 1) - (if p < (k : Int) + 1 ∧ (k : Int) + 1 ≤ b then 0 else 1) ≤ gI row (k : Int) := by
  unfold Wth
  rw [sky_len]
  constructor
  · intro h k hk
    have := h k hk
    rw [sky_at (by omega) (by omega), wV_give hp hb hle] at this
    exact this
  · intro h k hk
    rw [sky_at (by omega) (by omega), wV_give hp hb hle]
    exact h k hk
theorem no_common {bs ps : List Int} (h : exO bs ps = none) : ∀ z, z ∈ ps → z ∈ bs → False := fun z hz hb => by
  have := List.find?_eq_none.mp h z (mem_sortI.mpr hz)
  exact this (decide_eq_true hb)
theorem okB_iff {t pin b : Int} {bs ps row : List Int} (h : bbO bs ps pin = some b) (h0 : 0 ≤ pin) (hb : b ≤ t) : okB t bs ps row pin = true ↔ ∀ e : Int, pin < e → e ≤ b → wV bs ps e ≤ gI row (e - 1) := by
  unfold okB
  rw [h]
  dsimp only
  rw [List.all_eq_true]
  constructor
  · intro q e e1 e2
    have := q _ (List.mem_map.mpr ⟨(e - 1 - pin).toNat, List.mem_range.mpr (by omega), rfl⟩)
    have := of_decide_eq_true this
    rw [show pin + (((e - 1 - pin).toNat : Nat) : Int) = e - 1 by omega, sky_at (by omega) (by omega), show e - 1 + 1 = e by omega] at this
    exact this
  · intro q x hx
    obtain ⟨k, hk, rfl⟩ := List.mem_map.mp hx
    have hk := List.mem_range.mp hk
    refine decide_eq_true ?_
    have := q (pin + (k : Int) + 1) (by omega) (by omega)
    rw [sky_at (by omega) (by omega)]
    rw [show pin + (k : Int) + 1 - 1 = pin + (k : Int) by omega] at this
    exact this
theorem step_some {t : Int} {bs ps row : List Int} {q : Int × Int} (ht : 1 ≤ t) (sb : Sz t bs) (sp : Sz t ps) (h : stepV t bs ps row = some q) : q.1 ∈ ps ∧ q.2 ∈ bs ∧ q.1 ≤ q.2 ∧ Wth (skyR t (remI q.2 bs) (remI q.1 ps)) row := by
  unfold stepV at h
  split at h
  · cases h
  rename_i hlow
  have low : ∀ k : Nat, k < t.toNat → wV bs ps ((k : Int) + 1) - 1 ≤ gI row (k : Int) := fun k hk => by
    by_cases c : gI row (k : Int) < gI (skyR t bs ps) (k : Int) - 1
    · exact absurd ⟨k, hk, c⟩ hlow
    · rw [sky_at (by omega) (by omega)] at c
      omega
  split at h
  · rename_i s hs
    cases h
    have h1 := List.mem_of_find?_eq_some hs
    have h2 : decide (s ∈ bs) = true := List.find?_some (p := fun z => decide (z ∈ bs)) hs
    have h2 := of_decide_eq_true h2
    have h1 := mem_sortI.mp h1
    refine ⟨h1, h2, Int.le_refl _, (keep_iff ht h1 h2 (Int.le_refl _)).mpr fun k hk => ?_⟩
    rw [if_neg (by omega)]
    exact low k hk
  · split at h
    · cases h
    · rename_i pin hpin
      have h1 := mem_sortI.mp (List.mem_of_find?_eq_some hpin)
      have h2 : okB t bs ps row pin = true := List.find?_some hpin
      cases hb : bbO bs ps pin with
      | none => rw [hb] at h; cases h
      | some b =>
        rw [hb] at h
        cases h
        obtain ⟨b1, b2, _, _⟩ := bbO_spec.mp hb
        have ok := (okB_iff hb (sp pin h1).1 (sb b b1).2).mp h2
        refine ⟨h1, b1, Int.le_of_lt b2, (keep_iff ht h1 b1 (Int.le_of_lt b2)).mpr fun k hk => ?_⟩
        split
        · rename_i c
          have := ok _ c.1 c.2
          rw [show (k : Int) + 1 - 1 = (k : Int) by omega] at this
          omega
        · exact low k hk
theorem step_none {t : Int} {bs ps row : List Int} (ht : 1 ≤ t) (sb : Sz t bs) (sp : Sz t ps) (h : stepV t bs ps row = none) {p b : Int} (hp : p ∈ ps) (hb : b ∈ bs) (hle : p ≤ b) : ¬ Wth (skyR t (remI b bs) (remI p ps)) row := fun hk => by
  have hk := (keep_iff ht hp hb hle).mp hk
  unfold stepV at h
  split at h
  · rename_i hlow
    obtain ⟨k, k1, k2⟩ := hlow
    have := hk k k1
    rw [sky_at (by omega) (by omega)] at k2
    split at this <;> omega
  · split at h
    · cases h
    rename_i hx
    have nc := no_common hx
    have lt : p < b := by
      have : p ≠ b := fun z => nc p hp (z ▸ hb)
      omega
    -- the least bore beyond the pin, the greatest pin below it
    have m1 : b ∈ bs.filter fun z => decide (p < z) := List.mem_filter.mpr ⟨hb, decide_eq_true lt⟩
    have m2 := mnI_mem (List.ne_nil_of_mem m1)
    have m3 := mnI_le m1
    have m4 : ∀ z ∈ bs, p < z → mnI (bs.filter fun z => decide (p < z)) ≤ z := fun z hz hpz => mnI_le (List.mem_filter.mpr ⟨hz, decide_eq_true hpz⟩)
    generalize mnI (bs.filter fun z => decide (p < z)) = c at m2 m3 m4
    obtain ⟨c1, c2⟩ := List.mem_filter.mp m2
    have c2 := of_decide_eq_true c2
    have n1 : p ∈ ps.filter fun z => decide (z < c) := List.mem_filter.mpr ⟨hp, decide_eq_true c2⟩
    have n2 := mxI_mem (List.ne_nil_of_mem n1)
    have n3 := mxI_ge n1
    have n4 : ∀ z ∈ ps, z < c → z ≤ mxI (ps.filter fun z => decide (z < c)) := fun z hz hc => mxI_ge (List.mem_filter.mpr ⟨hz, decide_eq_true hc⟩)
    generalize mxI (ps.filter fun z => decide (z < c)) = d at n2 n3 n4
    obtain ⟨d1, d2⟩ := List.mem_filter.mp n2
    have d2 := of_decide_eq_true d2
    have hbb : bbO bs ps d = some c := bbO_spec.mpr ⟨c1, d2, fun z hz hdz => m4 z hz (by omega), fun z hz z1 z2 => by
      have : z ≠ c := fun e => nc z hz (e ▸ c1)
      have := n4 z hz (by omega)
      omega⟩
    have hok : okB t bs ps row d = true := (okB_iff hbb (sp d d1).1 (sb c c1).2).mpr fun e e1 e2 => by
      have z := sp d d1
      have z2 := sb c c1
      have := hk (e - 1).toNat (by omega)
      rw [show (((e - 1).toNat : Nat) : Int) + 1 = e by omega, if_pos ⟨by omega, by omega⟩, show (((e - 1).toNat : Nat) : Int) = e - 1 by omega] at this
      omega
    split at h
    · rename_i hf
      have := List.find?_eq_none.mp hf d (mem_sortI.mpr d1)
      exact this hok
    · rename_i pin hpin
      have h2 : okB t bs ps row pin = true := List.find?_some hpin
      cases hb : bbO bs ps pin with
      | none => unfold okB at h2; rw [hb] at h2; cases h2
      | some b => rw [hb] at h; cases h
end K09
set_option Elab.async false
set_option linter.all false
set_option maxRecDepth 100000
set_option maxHeartbeats 4000000
namespace K09
open PySem L2 DL
/-! ### the steps: one rule an expression, by its reading's head -/
local macro_rules | `(tactic| wtm_at "ev") => `(tactic| first
  | exact ev_var rfl
  | exact ev_int
  | exact ev_non
  | exact ev_bl
  | exact ev_str
  | exact ea_nil
  | with_reducible apply ea_cons
  | ((with_reducible refine' ev_isi ?a ?b ?c); (case' a => repeat' wtm_at "ev"); (case' b => exact rfl); (case' c => exact rfl))
  | with_reducible apply ev_cb
  | with_reducible apply ev_op
  | with_reducible apply ev_un
  | with_reducible apply et_test
  | with_reducible apply et_B
  | with_reducible apply et_not
  | with_reducible apply ev_isN
  | with_reducible apply ev_notN
  | with_reducible apply ev_notV
  | with_reducible apply et_and
  | with_reducible apply et_or
  | with_reducible apply ev_andV
  | with_reducible apply ev_orV
  | with_reducible apply ev_ifI
  | with_reducible apply ev_ifD
  | ((with_reducible refine' ev_dnotin ?a ?b ?c ?d); (case' a => repeat' wtm_at "ev"); (case' b => repeat' wtm_at "ev"); (case' c => exact rfl); (case' d => first | exact .inl rfl | exact .inr ⟨_, rfl, rfl⟩))
  | ((with_reducible refine' ev_din ?a ?b ?c ?d); (case' a => repeat' wtm_at "ev"); (case' b => repeat' wtm_at "ev"); (case' c => exact rfl); (case' d => first | exact .inl rfl | exact .inr ⟨_, rfl, rfl⟩))
  | with_reducible apply ev_lcLAI
  | with_reducible apply ev_lcLII
  | with_reducible apply ev_lcLA
  | with_reducible apply ev_lcLI
  | with_reducible apply ev_lcRAI
  | with_reducible apply ev_lcRI
  | with_reducible apply ev_lcRA
  | with_reducible apply ev_lcR
  | exact et_yes
  | with_reducible intro _
  | exact od_int
  | exact od_bool
  | exact od_eqI
  | exact od_neI
  | exact od_eqS
  | exact od_neS
  | exact ud_neg
  | exact cd_abs
  | exact cd_max2
  | exact cd_min2
  | exact cd_int
  | exact cd_intB
  | exact cd_lenScr
  | exact cd_lenT
  | exact cd_lenI (.inl rfl)
  | exact cd_lenI (.inr ⟨_, rfl, rfl⟩)
  | exact cd_len (.inl rfl)
  | exact cd_len (.inr ⟨_, rfl, rfl⟩)
  | exact cd_lenD (.inl rfl)
  | exact cd_lenD (.inr ⟨_, rfl, rfl⟩)
  | exact cd_sum (.inl rfl)
  | exact cd_sorted (.inl rfl)
  | exact cd_list (.inl rfl)
  | exact cd_listT
  | exact eo_none
  | with_reducible apply eo_some
  | with_reducible apply ev_sliceScr
  | refine' ev_sliceI ?_ ?_ ?_ (.inl rfl)
  | with_reducible apply od_intC
  | with_reducible apply od_ixScr
  | refine' od_ixI (.inl rfl) ?_ ?_
  | refine' od_ixI (.inr ⟨_, rfl, rfl⟩) ?_ ?_
  | exact od_ixT rfl
  | exact od_inI (.inl rfl)
  | exact od_notinI (.inl rfl)
  | refine' od_cat (.inl rfl) (.inl rfl) ?_
  | ((with_reducible refine' ev_tup ?h ?r ?l); (case' h => repeat' wtm_at "ev"); (case' r => exact rfl); (case' l => exact Nat.le_of_ble_eq_true rfl))
  | (refine (show CMul _ _ from .inl ⟨?_, ?_⟩) <;> decide)
  | (refine (show CMul _ _ from .inr ⟨?_, ?_⟩) <;> decide)
  | (refine (show (_ : Prop) from ?_); assumption)
  | (refine (show CDiv _ _ from ⟨?_, ?_⟩) <;> omega)
  | (refine (show CPow _ _ from ⟨?_, ?_, ?_⟩) <;> decide)
  | omega
  | (simp only [Pz.len]; done)
  | (simp only [Pz.len, List.length_map, List.length_append, List.length_range, List.length_set, List.length_reverse]; omega))
/-! a statement's step: its values are reckoned, what is left is the way on -/
local macro_rules | `(tactic| wtm_at "st") => `(tactic| first
  | (refine' q_set (by assumption) ?h ?k; (case' h => repeat' wtm_at "ev"); (case' k => (intro _ _ _ _ _; try dsimp only)))
  | (refine' s_set (by assumption) ?h ?k; (case' h => repeat' wtm_at "ev"); (case' k => (intro _ _ _ _ _; try dsimp only)))
  | (refine' q_augS (by assumption) ?h1 ?h2 ?h3 ?r1 ?r2 ?s1 ?s2 ?k; (case' h1 => repeat' wtm_at "ev"); (case' h2 => repeat' wtm_at "ev"); (case' h3 => repeat' wtm_at "ev"); (case' r1 => exact rfl); (case' r2 => exact rfl); (case' s1 => try wtm_at "ev"); (case' s2 => try wtm_at "ev"); (case' k => (intro _ _ _ _ _; try dsimp only)))
  | (refine' s_augS (by assumption) ?h1 ?h2 ?h3 ?r1 ?r2 ?s1 ?s2 ?k; (case' h1 => repeat' wtm_at "ev"); (case' h2 => repeat' wtm_at "ev"); (case' h3 => repeat' wtm_at "ev"); (case' r1 => exact rfl); (case' r2 => exact rfl); (case' s1 => try wtm_at "ev"); (case' s2 => try wtm_at "ev"); (case' k => (intro _ _ _ _ _; try dsimp only)))
  | (refine' q_setLI (by assumption) ?h ?h1 ?h2 ?r1 ?s1 ?s2 ?k; (case' h => repeat' wtm_at "ev"); (case' h1 => repeat' wtm_at "ev"); (case' h2 => repeat' wtm_at "ev"); (case' r1 => exact rfl); (case' s1 => try wtm_at "ev"); (case' s2 => try wtm_at "ev"); (case' k => (intro _ _ _ _ _; try dsimp only)))
  | (refine' q_setL (by assumption) ?h ?h1 ?h2 ?r1 ?s1 ?s2 ?k; (case' h => repeat' wtm_at "ev"); (case' h1 => repeat' wtm_at "ev"); (case' h2 => repeat' wtm_at "ev"); (case' r1 => exact rfl); (case' s1 => try wtm_at "ev"); (case' s2 => try wtm_at "ev"); (case' k => (intro _ _ _ _ _; try dsimp only)))
  | (refine' s_setLI (by assumption) ?h ?h1 ?h2 ?r1 ?s1 ?s2 ?k; (case' h => repeat' wtm_at "ev"); (case' h1 => repeat' wtm_at "ev"); (case' h2 => repeat' wtm_at "ev"); (case' r1 => exact rfl); (case' s1 => try wtm_at "ev"); (case' s2 => try wtm_at "ev"); (case' k => (intro _ _ _ _ _; try dsimp only)))
  | (refine' s_setL (by assumption) ?h ?h1 ?h2 ?r1 ?s1 ?s2 ?k; (case' h => repeat' wtm_at "ev"); (case' h1 => repeat' wtm_at "ev"); (case' h2 => repeat' wtm_at "ev"); (case' r1 => exact rfl); (case' s1 => try wtm_at "ev"); (case' s2 => try wtm_at "ev"); (case' k => (intro _ _ _ _ _; try dsimp only)))
  | (refine' q_appI (by assumption) ?h1 ?h ?r1 ?r2 ?s ?k; (case' h1 => repeat' wtm_at "ev"); (case' h => repeat' wtm_at "ev"); (case' r1 => exact rfl); (case' r2 => exact rfl); (case' s => try wtm_at "ev"); (case' k => (intro _ _ _ _ _; try dsimp only)))
  | (refine' q_app (by assumption) ?h1 ?h ?r1 ?r2 ?s ?k; (case' h1 => repeat' wtm_at "ev"); (case' h => repeat' wtm_at "ev"); (case' r1 => exact rfl); (case' r2 => exact rfl); (case' s => try wtm_at "ev"); (case' k => (intro _ _ _ _ _; try dsimp only)))
  | (refine' s_appI (by assumption) ?h1 ?h ?r1 ?r2 ?s ?k; (case' h1 => repeat' wtm_at "ev"); (case' h => repeat' wtm_at "ev"); (case' r1 => exact rfl); (case' r2 => exact rfl); (case' s => try wtm_at "ev"); (case' k => (intro _ _ _ _ _; try dsimp only)))
  | (refine' s_app (by assumption) ?h1 ?h ?r1 ?r2 ?s ?k; (case' h1 => repeat' wtm_at "ev"); (case' h => repeat' wtm_at "ev"); (case' r1 => exact rfl); (case' r2 => exact rfl); (case' s => try wtm_at "ev"); (case' k => (intro _ _ _ _ _; try dsimp only)))
  | (refine' q_dput (by assumption) ?h ?h1 ?h2 ?r1 ?r2 ?s ?k; (case' h => repeat' wtm_at "ev"); (case' h1 => repeat' wtm_at "ev"); (case' h2 => repeat' wtm_at "ev"); (case' r1 => exact rfl); (case' r2 => exact rfl); (case' s => try wtm_at "ev"); (case' k => (intro _ _ _ _ _; try dsimp only)))
  | (refine' s_dput (by assumption) ?h ?h1 ?h2 ?r1 ?r2 ?s ?k; (case' h => repeat' wtm_at "ev"); (case' h1 => repeat' wtm_at "ev"); (case' h2 => repeat' wtm_at "ev"); (case' r1 => exact rfl); (case' r2 => exact rfl); (case' s => try wtm_at "ev"); (case' k => (intro _ _ _ _ _; try dsimp only)))
  | (refine' q_tup2 (by assumption) ?h ?k; (case' h => repeat' wtm_at "ev"); (case' k => (intro _ _ _ _ _; try dsimp only)))
  | (refine' q_drop (by assumption) ?h ?k; (case' h => repeat' wtm_at "ev"); (case' k => (intro _ _ _ _ _; try dsimp only)))
  | (refine' q_if (by assumption) ?h ?k1 ?k2; (case' h => repeat' wtm_at "ev"))
  | (refine' s_if (by assumption) ?h ?k1 ?k2; (case' h => repeat' wtm_at "ev"))
  | (refine' s_ret (by assumption) ?h ?k; (case' h => repeat' wtm_at "ev"); (case' k => (intro _ _ _ _ _ _ _; try dsimp only)))
  | (refine' q_ret (by assumption) ?h ?k; (case' h => repeat' wtm_at "ev"); (case' k => (intro _ _ _ _ _ _ _; try dsimp only)))
  | ((with_reducible refine' s_next (by assumption) ?k); (case' k => (intro _ _ _ _ _; try dsimp only)))
  | (with_reducible refine q_next ?_))

theorem arg_of {t : Int} {bs ps : List Int} (ht : 0 ≤ t ∧ t ≤ 1000) (lb : bs.length ≤ 1000) (lp : ps.length ≤ 1000) : Arg t bs ps := ⟨by omega, by omega, by omega, by omega⟩
theorem rows_cat (xs ys : List (Int × Int)) : (Rv.dat (.lst (xs.map pairD ++ ys.map pairD))) = .dat (pairsD (xs ++ ys)) := by
  show _ = Rv.dat (.lst ((xs ++ ys).map pairD))
  rw [List.map_append]
def ph_wth : List MC → List Rv → List MC → Out → Prop := fun M rs M' o => ∃ xs ys, M = [] ∧ rs = [rints xs, rints ys] ∧ xs.length ≤ 1000 ∧ xs.length ≤ ys.length ∧ M' = [] ∧ o = .ret (.bl (wthB xs ys))
abbrev sp__law_within (K : PySem.W.Frag) : Sp := FSp K ph_wth
theorem ok__law_within {P : Program} {w : World} {K : PySem.W.Frag} {mg : Str → Option Value} {base : Heap} {ad : Ad} {fd : Fd} (T : Txt K mg w ad fd) : FnOk P w K mg base CX0 1 ad.a__law_within fd.d__law_within ["row", "other"] (sp__law_within K) := by
  refine L2.Fun.ok (k := 0) T.F__law_within sc__law_within (fun vs H Q E h => ?_) (fun cdv A outer s H vs Q E hr h => ?_)
  · exact h.len fun M rs M' o ⟨_, _, _, e, _⟩ => by rw [e]; rfl
  · refine ⟨_, (pss_cons (ps_for PassesOwn.never rfl (pi_range1 (by rfl) T.n_range (pa_cons (pe_callB (call_lenK (K := K) rfl) (by rfl) T.n_len (by decide +kernel) (pa_cons (pv 0) pa_nil)) pa_nil)) (pg_name (i := 2) sc__law_within.nd rfl (by first | exact Or.inl rfl | exact Or.inr rfl))
  (pss_one (ps_if (pt_cmpR op_gt (pe_ix (ix_listK (K := K) rfl) (pv 0) (pv 2) (fun _ _ => rfl)) (pe_ix (ix_listK (K := K) rfl) (pv 1) (pv 2) (fun _ _ => rfl)) (nomark _)) (pss_one (ps_ret (pe_bl))) pss_nil)))
  (pss_one (ps_ret (pe_bl)))), ?_⟩
    try dsimp only [cxOf, Cx.nox, Cx.wish, List.map]
    refine h.reading fun F As M rs M' o hΦ hL B S hB hA post => ?_
    obtain ⟨xs, ys, rfl, rfl, hl, hn, rfl, rfl⟩ := hΦ
    dsimp only at post
    refine' q_forR1 S (n := (xs.length : Int)) (ea_cons (ev_cb (ea_cons (ev_var (r := rints xs) rfl) ea_nil) (cd_lenI (.inl rfl))) ea_nil) (by omega) (fun i M E => M = [] ∧ (∀ k : Nat, k < i → gI xs (k : Int) ≤ gI ys (k : Int)) ∧ ∃ x, E = [some (rints xs), some (rints ys), x]) ⟨rfl, fun k hk => absurd hk (Nat.not_lt_zero _), _, rfl⟩ ?hb ?hd
    case hd =>
      rintro M E ⟨rfl, ok, x, rfl⟩ F As σ H S
      rw [Int.toNat_natCast] at ok
      have e : wthB xs ys = true := wthB_iff.mpr ok
      rw [e] at post
      try dsimp only
      refine s_ret S (r := rbl true) (M' := []) ev_bl ?_
      intro v F As σ H S r
      exact post _ _ _ _ _ _ _ S rfl r
    case hb =>
      rintro i M E hi ⟨rfl, ok, x, rfl⟩ F As σ H S
      try dsimp only
      refine s_if S (b := decide (gI ys (i : Int) < gI xs (i : Int))) (et_test (ev_op (ev_op (ev_var (r := rints xs) rfl) (ev_var (r := rint (i : Int)) rfl) (od_ixI (ns := xs) (.inl rfl) (by omega) (by omega))) (ev_op (ev_var (r := rints ys) rfl) (ev_var (r := rint (i : Int)) rfl) (od_ixI (ns := ys) (.inl rfl) (by omega) (by omega))) od_bool)) ?_ ?_
      · intro hc F As σ H S
        have hc := of_decide_eq_true hc
        have e : wthB xs ys = false := by
          cases h : wthB xs ys with
          | false => rfl
          | true =>
            have := wthB_iff.mp h i (by omega)
            omega
        rw [e] at post
        refine s_ret S (r := rbl false) (M' := []) ev_bl ?_
        intro v F As σ H S r
        exact post _ _ _ _ _ _ _ S rfl r
      · intro hc F As σ H S
        have hc := of_decide_eq_false hc
        refine s_next S ?_
        intro F As σ H S
        refine s_end S ⟨rfl, fun k hk => ?_, _, rfl⟩ (Ele.refl _)
        by_cases e : k = i
        · subst e; omega
        · exact ok k (by omega)
def easR (t : Int) (q : Int × Int) : List Int := arr t.toNat fun k => if q.1 < 1 + (k : Int) ∧ 1 + (k : Int) ≤ q.2 then 1 else 0
def ph_eas : List MC → List Rv → List MC → Out → Prop := fun M rs M' o => ∃ t q, M = [] ∧ rs = [rint t, .dat (pairD q)] ∧ (0 ≤ t ∧ t ≤ 1000) ∧ M' = [] ∧ o = .ret (.lst ((easR t q).map D.int))
abbrev sp__law_eased (K : PySem.W.Frag) : Sp := FSp K ph_eas
theorem ok__law_eased {P : Program} {w : World} {K : PySem.W.Frag} {mg : Str → Option Value} {base : Heap} {ad : Ad} {fd : Fd} (T : Txt K mg w ad fd) : FnOk P w K mg base CX0 1 ad.a__law_eased fd.d__law_eased ["top", "pair"] (sp__law_eased K) := by
  refine L2.Fun.ok (k := 0) T.F__law_eased sc__law_eased (fun vs H Q E h => ?_) (fun cdv A outer s H vs Q E hr h => ?_)
  · exact h.len fun M rs M' o ⟨_, _, _, e, _⟩ => by rw [e]; rfl
  · refine ⟨_, (pss_one (ps_ret (pe_lc rfl sc__law_eased.nd (pi_range2 (by rfl) T.n_range (pa_cons (pe_int) (pa_cons (pe_op op_add (pv 0) (pe_int)) pa_nil))) (blkOk_by (own := [("e", 2)]) (N := N__law_eased) (sc := defScope s__law_eased) (by decide +kernel)) (fun _ _ _ _ _ => (pg_name (i := 2) sc__law_eased.nd rfl (by first | exact Or.inl rfl | exact Or.inr rfl))) (fun _ _ _ _ _ => pts_nil) (fun _ _ _ _ _ => (pe_ifExp (pt_chain op_lt op_le (pe_ix (ix_tupK (K := K) rfl) (pv 1) (pe_int) (fun _ _ => rfl)) (pv 2) (pe_ix (ix_tupK (K := K) rfl) (pv 1) (pe_int) (fun _ _ => rfl))) (pe_int) (pe_int)))))), ?_⟩
    try dsimp only [cxOf, Cx.nox, Cx.wish, List.map]
    refine h.reading fun F As M rs M' o hΦ hL B S hB hA post => ?_
    obtain ⟨t, q, rfl, rfl, ht, rfl, rfl⟩ := hΦ
    refine s_ret S (r := rints (easR t q)) (M' := []) (ev_is (ev_lcR2AI (a := 1) (n := t + 1) (fun k => if q.1 < 1 + (k : Int) ∧ 1 + (k : Int) ≤ q.2 then 1 else 0) (ea_cons ev_int (ea_cons (ev_op (ev_var (r := rint t) rfl) ev_int od_int) ea_nil)) ⟨by omega, by omega, by omega, by omega⟩ fun k hk => ev_if (b := decide (q.1 < 1 + (k : Int)) && decide (1 + (k : Int) ≤ q.2)) (et_test (ev_chain3 (ev_op (ev_var (r := .dat (pairD q)) rfl) ev_int (od_ixT (d := .int q.1) rfl)) (ev_var (r := rint (1 + (k : Int))) rfl) od_bool (fun _ => ev_op (ev_var (r := .dat (pairD q)) rfl) ev_int (od_ixT (d := .int q.2) rfl)) (fun _ => od_bool))) (fun hb => ev_is ev_int (by
        rw [Bool.and_eq_true, decide_eq_true_eq, decide_eq_true_eq] at hb
        rw [if_pos hb])) (fun hb => ev_is ev_int (by
        rw [if_neg (fun z => by rw [decide_eq_true z.1, decide_eq_true z.2] at hb; cases hb)]))) (by
      rw [show (t + 1 - 1).toNat = t.toNat by omega]; rfl)) fun v F As σ H S r => post _ _ _ _ _ _ _ S rfl r
def sumR (xs ys : List Int) : List Int := arr xs.length fun k => gI xs (k : Int) + gI ys (k : Int)
def ph_smd : List MC → List Rv → List MC → Out → Prop := fun M rs M' o => ∃ xs ys, M = [] ∧ rs = [rints xs, rints ys] ∧ xs.length ≤ 1000 ∧ xs.length ≤ ys.length ∧ M' = [] ∧ o = .ret (.lst ((sumR xs ys).map D.int))
abbrev sp__law_summed (K : PySem.W.Frag) : Sp := FSp K ph_smd
theorem ok__law_summed {P : Program} {w : World} {K : PySem.W.Frag} {mg : Str → Option Value} {base : Heap} {ad : Ad} {fd : Fd} (T : Txt K mg w ad fd) : FnOk P w K mg base CX0 1 ad.a__law_summed fd.d__law_summed ["row", "other"] (sp__law_summed K) := by
  refine L2.Fun.ok (k := 0) T.F__law_summed sc__law_summed (fun vs H Q E h => ?_) (fun cdv A outer s H vs Q E hr h => ?_)
  · exact h.len fun M rs M' o ⟨_, _, _, e, _⟩ => by rw [e]; rfl
  · refine ⟨_, (pss_one (ps_ret (pe_lc rfl sc__law_summed.nd (pi_range1 (by rfl) T.n_range (pa_cons (pe_callB (call_lenK (K := K) rfl) (by rfl) T.n_len (by decide +kernel) (pa_cons (pv 0) pa_nil)) pa_nil)) (blkOk_by (own := [("at", 2)]) (N := N__law_summed) (sc := defScope s__law_summed) (by decide +kernel)) (fun _ _ _ _ _ => (pg_name (i := 2) sc__law_summed.nd rfl (by first | exact Or.inl rfl | exact Or.inr rfl))) (fun _ _ _ _ _ => pts_nil) (fun _ _ _ _ _ => (pe_op op_add (pe_ix (ix_listK (K := K) rfl) (pv 0) (pv 2) (fun _ _ => rfl)) (pe_ix (ix_listK (K := K) rfl) (pv 1) (pv 2) (fun _ _ => rfl))))))), ?_⟩
    try dsimp only [cxOf, Cx.nox, Cx.wish, List.map]
    refine h.reading fun F As M rs M' o hΦ hL B S hB hA post => ?_
    obtain ⟨xs, ys, rfl, rfl, hl, hn, rfl, rfl⟩ := hΦ
    refine s_ret S (r := rints (sumR xs ys)) (M' := []) (ev_is (ev_lcRAI (n := (xs.length : Int)) (fun k => gI xs (k : Int) + gI ys (k : Int)) (ea_cons (ev_cb (ea_cons (ev_var (r := rints xs) rfl) ea_nil) (cd_lenI (.inl rfl))) ea_nil) (by omega) fun k hk => ev_op (ev_op (ev_var (r := rints xs) rfl) (ev_var (r := rint (k : Int)) rfl) (od_ixI (ns := xs) (.inl rfl) (by omega) (by omega))) (ev_op (ev_var (r := rints ys) rfl) (ev_var (r := rint (k : Int)) rfl) (od_ixI (ns := ys) (.inl rfl) (by omega) (by omega))) od_int) (by rw [Int.toNat_natCast]; rfl)) fun v F As σ H S r => post _ _ _ _ _ _ _ S rfl r
abbrev sp__law_without (K : PySem.W.Frag) : Sp := FSp K ph_wo
theorem ok__law_without {P : Program} {w : World} {K : PySem.W.Frag} {mg : Str → Option Value} {base : Heap} {ad : Ad} {fd : Fd} (T : Txt K mg w ad fd) : FnOk P w K mg base CX0 1 ad.a__law_without fd.d__law_without ["pieces", "piece"] (sp__law_without K) := by
  refine L2.Fun.ok (k := 0) T.F__law_without sc__law_without (fun vs H Q E h => ?_) (fun cdv A outer s H vs Q E hr h => ?_)
  · exact h.len fun M rs M' o ⟨_, _, _, e, _⟩ => by rw [e]; rfl
  · refine ⟨_, (pss_cons (ps_set (i := 2) sc__law_without.nd rfl (by first | exact Or.inl rfl | exact Or.inr rfl) (pe_callTy (call_listK (K := K) rfl) (by rfl) T.n_list (by decide +kernel) (pa_cons (pv 0) pa_nil)))
  (pss_cons (ps_expr (pe_bmK (K := K) (id := "list.remove") rfl (pe_bm PySem.F.plainAttrs_list PySem.F.slot_list_remove PySem.F.type_list_remove mt_remove (pv 2) (pa_cons (pv 1) pa_nil))))
  (pss_one (ps_ret (pv 2))))), ?_⟩
    try dsimp only [cxOf, Cx.nox, Cx.wish, List.map]
    refine h.reading fun F As M rs M' o hΦ hL B S hB hA post => ?_
    obtain ⟨ns, e, rfl, rfl, hm, hl, rfl, rfl⟩ := hΦ
    refine' q_set S (ev_cb (ea_cons (ev_var (r := rints ns) rfl) ea_nil) (cd_listM (ds := ns.map D.int) (.inl rfl))) ?_
    intro F As σ H S
    try simp only [List.set_cons_zero, List.set_cons_succ] at S
    refine q_remI S (k := 0) (ns := ns) (ds := ns.map D.int) (e := e) (ev_var (r := .cel 0) rfl) (ev_var (r := rint e) rfl) rfl rfl hm ?_
    intro F As σ H S
    refine s_retF S hB (k := 0) (ev_var (r := .cel 0) rfl) rfl rfl (by rw [hA]; exact Nat.zero_le _) ?_
    intro v F As σ E H S r
    exact post _ _ _ _ _ _ _ S rfl r
def exT (s : List Int × Int) (x : Int) : List Int × Int := if x ∈ s.1 then (remI x s.1, s.2 + 1) else s
def exS (s : List Int × Int) (ps : List Int) : List Int × Int := ps.foldl exT s
theorem exS_F : ∀ (ps left : List Int) (m : Int), (exS (left, m) ps).2 = m + exF left ps
  | [], left, m => (Int.add_zero m).symm
  | x :: r, left, m => by
    show (exS (exT (left, m) x) r).2 = _
    unfold exT exF
    dsimp only
    by_cases c : x ∈ left
    · rw [if_pos c, if_pos c, exS_F r]; omega
    · rw [if_neg c, if_neg c, exS_F r]
theorem exS_len : ∀ (ps left : List Int) (m : Int), (exS (left, m) ps).1.length ≤ left.length
  | [], left, m => Nat.le_refl _
  | x :: r, left, m => by
    show (exS (exT (left, m) x) r).1.length ≤ _
    unfold exT
    dsimp only
    by_cases c : x ∈ left
    · rw [if_pos c]
      have := exS_len r (remI x left) (m + 1)
      have := rem_len c
      omega
    · rw [if_neg c]
      exact exS_len r left m
def ph_exm : List MC → List Rv → List MC → Out → Prop := fun M rs M' o => ∃ bs ps, M = [] ∧ rs = [rints bs, rints ps] ∧ bs.length ≤ 1000 ∧ ps.length ≤ 1000 ∧ M' = [] ∧ o = .ret (.int (exF bs ps))
abbrev sp__law_exact_many (K : PySem.W.Frag) : Sp := FSp K ph_exm
theorem ok__law_exact_many {P : Program} {w : World} {K : PySem.W.Frag} {mg : Str → Option Value} {base : Heap} {ad : Ad} {fd : Fd} (T : Txt K mg w ad fd) : FnOk P w K mg base CX0 1 ad.a__law_exact_many fd.d__law_exact_many ["bores", "pins"] (sp__law_exact_many K) := by
  refine L2.Fun.ok (k := 0) T.F__law_exact_many sc__law_exact_many (fun vs H Q E h => ?_) (fun cdv A outer s H vs Q E hr h => ?_)
  · exact h.len fun M rs M' o ⟨_, _, _, e, _⟩ => by rw [e]; rfl
  · have hu := hu_of hr
    refine ⟨_, (pss_cons (ps_set (i := 2) sc__law_exact_many.nd rfl (by first | exact Or.inl rfl | exact Or.inr rfl) (pe_callTy (call_listK (K := K) rfl) (by rfl) T.n_list (by decide +kernel) (pa_cons (pv 0) pa_nil)))
  (pss_cons (ps_set (i := 3) sc__law_exact_many.nd rfl (by first | exact Or.inl rfl | exact Or.inr rfl) (pe_int))
  (pss_cons (ps_for PassesOwn.never rfl (pi_listK (K := K) rfl (pv 1)) (pg_name (i := 4) sc__law_exact_many.nd rfl (by first | exact Or.inl rfl | exact Or.inr rfl))
  (pss_one (ps_if (pt_cmpR (op_inK (K := K) rfl) (pv 4) (pv 2) (by rfl)) (pss_cons (ps_expr (pe_bmK (K := K) (id := "list.remove") rfl (pe_bm PySem.F.plainAttrs_list PySem.F.slot_list_remove PySem.F.type_list_remove mt_remove (pv 2) (pa_cons (pv 4) pa_nil))))
  (pss_one (ps_aug (i := 3) sc__law_exact_many.nd rfl (by first | exact Or.inl rfl | exact Or.inr rfl) (pe_int) ip_add))) pss_nil)))
  (pss_one (ps_ret (pv 3)))))), ?_⟩
    try dsimp only [cxOf, Cx.nox, Cx.wish, List.map]
    refine h.reading fun F As M rs M' o hΦ hL B S hB hA post => ?_
    obtain ⟨bs, ps, rfl, rfl, lb, lp, rfl, rfl⟩ := hΦ
    refine' q_set S (ev_cb (ea_cons (ev_var (r := rints bs) rfl) ea_nil) (cd_listM (ds := bs.map D.int) (.inl rfl))) ?_
    intro F As σ H S
    refine q_set S ev_int ?_
    intro F As σ H S
    try simp only [List.set_cons_zero, List.set_cons_succ] at S
    refine' q_forI S (ns := ps) (ev_var (r := rints ps) rfl) (.inl rfl) (fun i M E => M = [.lst ((exS (bs, 0) (ps.take i)).1.map D.int)] ∧ ∃ x, E = [some (rints bs), some (rints ps), some (.cel 0), some (rint (exS (bs, 0) (ps.take i)).2), x]) ⟨rfl, _, rfl⟩ (fun i M E h => .inl rfl) ?hb ?hd
    case hd =>
      rintro M E ⟨rfl, x, rfl⟩ F As σ H S
      rw [List.take_length, exS_F, Int.zero_add] at S
      try dsimp only
      refine s_ret S (r := rint (exF bs ps)) (M' := [.lst ((exS (bs, 0) ps).1.map D.int)]) (ev_var rfl) ?_
      intro v F As σ H S r
      exact post _ _ _ _ _ _ _ S rfl r
    case hb =>
      rintro B2 cv i z M E hi ⟨rfl, x, rfl⟩ F As σ H S
      try simp only [List.set_cons_zero, List.set_cons_succ] at S
      have st : exS (bs, 0) (ps.take (i + 1)) = exT (exS (bs, 0) (ps.take i)) z := by
        unfold exS
        rw [take_snoc hi, List.foldl_append]; rfl
      have hlen := exS_len (ps.take i) bs 0
      rw [st]
      generalize exS (bs, 0) (ps.take i) = g at S hlen ⊢
      obtain ⟨left, m⟩ := g
      dsimp only at S hlen ⊢
      unfold exT
      refine s_if S (b := decide (z ∈ left)) (et_test (ev_op (ev_var (r := rint z) rfl) (ev_var (r := .cel 0) rfl) (od_inI (ns := left) (.inr ⟨_, rfl, rfl⟩)))) ?_ ?_
      · intro hc F As σ H S
        have hc := of_decide_eq_true hc
        rw [if_pos hc]
        refine q_remI S (k := 0) (ns := left) (ds := left.map D.int) (e := z) (ev_var (r := .cel 0) rfl) (ev_var (r := rint z) rfl) rfl rfl hc ?_
        intro F As σ H S
        refine s_aug S (a := m) (c := 1) rfl ev_int ?_
        intro F As σ H S
        exact s_end S ⟨rfl, _, rfl⟩ (Ele.refl _)
      · intro hc F As σ H S
        have hc := of_decide_eq_false hc
        rw [if_neg hc]
        refine s_next S ?_
        intro F As σ H S
        exact s_end S ⟨rfl, _, rfl⟩ (Ele.refl _)
def ph_cpl : List MC → List Rv → List MC → Out → Prop := fun M rs M' o => ∃ bs ps, M = [] ∧ rs = [rints bs, rints ps] ∧ bs.length < 64 ∧ ps.length < 64 ∧ M' = [] ∧ o = .ret (pairsD (goL bs ps))
abbrev sp__law_couples (K : PySem.W.Frag) : Sp := FSp K ph_cpl
theorem ok__law_couples {P : Program} {w : World} {K : PySem.W.Frag} {mg : Str → Option Value} {base : Heap} {ad : Ad} {fd : Fd} (T : Txt K mg w ad fd) : FnOk P w K mg base CX0 1 ad.a__law_couples fd.d__law_couples ["bores", "pins"] (sp__law_couples K) := by
  refine L2.Fun.ok (k := 0) T.F__law_couples sc__law_couples (fun vs H Q E h => ?_) (fun cdv A outer s H vs Q E hr h => ?_)
  · exact h.len fun M rs M' o ⟨_, _, _, e, _⟩ => by rw [e]; rfl
  · have hu := hu_of hr
    refine ⟨_, (pss_cons (ps_set (i := 2) sc__law_couples.nd rfl (by first | exact Or.inl rfl | exact Or.inr rfl) (pe_lst pa_nil))
  (pss_cons (ps_for PassesOwn.never rfl (pi_listK (K := K) rfl (pe_sortSet (K := K) rfl rfl (by rfl) T.n_sorted (by rfl) T.n_set (pa_cons (pv 1) pa_nil))) (pg_name (i := 3) sc__law_couples.nd rfl (by first | exact Or.inl rfl | exact Or.inr rfl))
  (pss_one (ps_set (i := 2) sc__law_couples.nd rfl (by first | exact Or.inl rfl | exact Or.inr rfl) (pe_op op_cat (pv 2) (pe_lc rfl sc__law_couples.nd (pi_listK (K := K) rfl (pe_sortSet (K := K) rfl rfl (by rfl) T.n_sorted (by rfl) T.n_set (pa_cons (pv 0) pa_nil))) (blkOk_by (own := [("bore", 4)]) (N := N__law_couples) (sc := defScope s__law_couples) (by decide +kernel)) (fun _ _ _ _ _ => (pg_name (i := 4) sc__law_couples.nd rfl (by first | exact Or.inl rfl | exact Or.inr rfl))) (fun _ _ _ _ _ => (pts_one (pt_cmpR op_le (pv 3) (pv 4) (nomark _)))) (fun _ _ _ _ _ => (pe_tup (pa_cons (pv 3) (pa_cons (pv 4) pa_nil)))))))))
  (pss_one (ps_ret (pv 2))))), ?_⟩
    try dsimp only [cxOf, Cx.nox, Cx.wish, List.map]
    refine h.reading fun F As M rs M' o hΦ hL B S hB hA post => ?_
    obtain ⟨bs, ps, rfl, rfl, lb, lp, rfl, rfl⟩ := hΦ
    dsimp only at post
    have l1 := sortU_len bs
    have l2 := sortU_len ps
    refine q_set S (r := .dat (pairsD [])) (M' := []) (ev_lst (ds := []) ea_nil rfl (Nat.zero_le _)) ?_
    intro F As σ H S
    try simp only [List.set_cons_zero, List.set_cons_succ] at S
    refine' q_forI S (ns := sortU ps) (ev_sortSet (ns := ps) (ea_cons (ev_var (r := rints ps) rfl) ea_nil) (.inl rfl) lp) (.inl rfl) (fun i M E => M = [] ∧ ∃ x y, E = [some (rints bs), some (rints ps), some (.dat (pairsD (((sortU ps).take i).map fun p => ((sortU bs).filter fun b => decide (p ≤ b)).map fun b => (p, b)).flatten)), x, y]) ⟨rfl, _, _, rfl⟩ (fun i M E h => .inl rfl) ?hb ?hd
    case hd =>
      rintro M E ⟨rfl, x, y, rfl⟩ F As σ H S
      rw [List.take_length] at S
      try dsimp only
      refine s_ret S (r := .dat (pairsD (goL bs ps))) (M' := []) (ev_var rfl) ?_
      intro v F As σ H S r
      exact post _ _ _ _ _ _ _ S rfl r
    case hb =>
      rintro B2 cv i p M E hi ⟨rfl, x, y, rfl⟩ F As σ H S
      try simp only [List.set_cons_zero, List.set_cons_succ] at S
      have hil := (List.getElem?_eq_some_iff.mp hi).1
      have st : (((sortU ps).take (i + 1)).map fun p => ((sortU bs).filter fun b => decide (p ≤ b)).map fun b => (p, b)).flatten = (((sortU ps).take i).map fun p => ((sortU bs).filter fun b => decide (p ≤ b)).map fun b => (p, b)).flatten ++ ((sortU bs).filter fun b => decide (p ≤ b)).map fun b => (p, b) := by
        rw [take_snoc hi, List.map_append, List.flatten_append]
        show _ ++ (_ ++ []) = _
        rw [List.append_nil]
      have lf : (((sortU ps).take i).map fun p => ((sortU bs).filter fun b => decide (p ≤ b)).map fun b => (p, b)).flatten.length ≤ 64 * 64 := by
        have h := lc2D_len (ys := sortU bs) (p := fun p b => decide (p ≤ b)) (f := fun p b => pairD (p, b)) ((sortU ps).take i)
        have e : lc2D ((sortU ps).take i) (sortU bs) (fun p b => decide (p ≤ b)) (fun p b => pairD (p, b)) = ((((sortU ps).take i).map fun p => ((sortU bs).filter fun b => decide (p ≤ b)).map fun b => (p, b)).flatten).map pairD := by
          unfold lc2D
          rw [List.map_flatten, List.map_map]
          congr 1
          refine List.map_congr_left fun p _ => ?_
          show _ = List.map pairD (List.map (fun b => (p, b)) _)
          rw [List.map_map]; rfl
        rw [e, List.length_map] at h
        exact Nat.le_trans h (Nat.mul_le_mul (by rw [List.length_take]; omega) (by omega))
      rw [st]
      generalize (((sortU ps).take i).map fun p => ((sortU bs).filter fun b => decide (p ≤ b)).map fun b => (p, b)).flatten = G at S lf ⊢
      have lf2 : ((sortU bs).filter fun b => decide (p ≤ b)).length ≤ 64 := Nat.le_trans (List.length_filter_le _ _) (by omega)
      refine s_set S (r := .dat (pairsD (G ++ ((sortU bs).filter fun b => decide (p ≤ b)).map fun b => (p, b)))) (M' := []) (ev_is (ev_op (ev_var (r := .dat (pairsD G)) rfl) (ev_is (ev_lcLI (ns := sortU bs) (fun b => decide (p ≤ b)) (fun b => pairD (p, b)) (ev_sortSet (ns := bs) (ea_cons (ev_var (r := rints bs) rfl) ea_nil) (.inl rfl) lb) (by omega) (fun b hb => et_test (ev_op (ev_var (r := rint p) rfl) (ev_var (r := rint b) rfl) od_bool)) (fun b hb _ => ev_tup (rs := [rint p, rint b]) (ea_cons (ev_var rfl) (ea_cons (ev_var rfl) ea_nil)) rfl (Nat.le_of_ble_eq_true rfl))) (show _ = Rv.dat (pairsD (((sortU bs).filter fun b => decide (p ≤ b)).map fun b => (p, b))) by
        show _ = Rv.dat (.lst (List.map pairD (List.map (fun b => (p, b)) _)))
        rw [List.map_map]; rfl)) (od_cat (.inl rfl) (.inl rfl) (by rw [List.length_map, List.length_map, List.length_map]; omega))) (rows_cat _ _)) ?_
      intro F As σ H S
      exact s_end S ⟨rfl, _, _, rfl⟩ (Ele.refl _)
def tolD (t : Int) (bs ps : List Int) : D := .tup [.int t, .lst ((sortI bs).map D.int), .lst ((sortI ps).map D.int), .lst ((skyR t bs ps).map D.int), .int (trn ([(ps.length : Int)] ++ skyR t bs ps ++ [(bs.length : Int)])), .int (sprV t bs ps), pairsD (goL bs ps)]
def ph_tol (ad : Ad) : List MC → List Rv → List MC → Out → Prop := fun M rs M' o => ∃ t bs ps, M = [] ∧ rs = [.dat (stkD ad t bs ps)] ∧ (1 ≤ t ∧ t ≤ 60) ∧ Sz t bs ∧ Sz t ps ∧ bs.length < 64 ∧ ps.length < 64 ∧ M' = [] ∧ o = .ret (tolD t bs ps)
abbrev sp__law_told (K : PySem.W.Frag) (ad : Ad) : Sp := FSp K (ph_tol ad)
theorem ok__law_told {P : Program} {w : World} {K : PySem.W.Frag} {mg : Str → Option Value} {base : Heap} {ad : Ad} {fd : Fd} (T : Txt K mg w ad fd) : FnOk P w K mg base CX0 5 ad.a__law_told fd.d__law_told ["stock"] (sp__law_told K ad) := by
  have G_Stock_bores := ok_Stock_bores (P := P) (base := base) T
  have b_Stock_bores := T.F_Stock_bores.binds (ps := ["self"]) fun _ _ _ _ _ _ us hl => match us, hl with | [_], _ => rfl
  have G_Stock_can_give := ok_Stock_can_give (P := P) (base := base) T
  have b_Stock_can_give := T.F_Stock_can_give.binds (ps := ["self"]) fun _ _ _ _ _ _ us hl => match us, hl with | [_], _ => rfl
  have G_Stock_pins := ok_Stock_pins (P := P) (base := base) T
  have b_Stock_pins := T.F_Stock_pins.binds (ps := ["self"]) fun _ _ _ _ _ _ us hl => match us, hl with | [_], _ => rfl
  have G_Stock_skyline := ok_Stock_skyline (P := P) (base := base) T
  have b_Stock_skyline := T.F_Stock_skyline.binds (ps := ["self"]) fun _ _ _ _ _ _ us hl => match us, hl with | [_], _ => rfl
  have G_Stock_spare := ok_Stock_spare (P := P) (base := base) T
  have b_Stock_spare := T.F_Stock_spare.binds (ps := ["self"]) fun _ _ _ _ _ _ us hl => match us, hl with | [_], _ => rfl
  have G_Stock_top := ok_Stock_top (P := P) (base := base) T
  have b_Stock_top := T.F_Stock_top.binds (ps := ["self"]) fun _ _ _ _ _ _ us hl => match us, hl with | [_], _ => rfl
  have G_Stock_turns := ok_Stock_turns (P := P) (base := base) T
  have b_Stock_turns := T.F_Stock_turns.binds (ps := ["self"]) fun _ _ _ _ _ _ us hl => match us, hl with | [_], _ => rfl
  refine L2.Fun.ok (k := 4) T.F__law_told sc__law_told (fun vs H Q E h => ?_) (fun cdv A outer s H vs Q E hr h => ?_)
  · exact h.len fun M rs M' o ⟨_, _, _, _, e, _⟩ => by rw [e]; rfl
  · have hu := hu_of hr
    refine ⟨_, (pss_one (ps_ret (pe_tup (pa_cons (pe_meth0 (pv 0) T.cl_Stock T.m_Stock_top G_Stock_top (hr.mono (by decide)) b_Stock_top .nil pass0) (pa_cons (pe_meth0 (pv 0) T.cl_Stock T.m_Stock_bores G_Stock_bores (hr.mono (by decide)) b_Stock_bores .nil pass0) (pa_cons (pe_meth0 (pv 0) T.cl_Stock T.m_Stock_pins G_Stock_pins (hr.mono (by decide)) b_Stock_pins .nil pass0) (pa_cons (pe_meth0 (pv 0) T.cl_Stock T.m_Stock_skyline G_Stock_skyline (hr.mono (by decide)) b_Stock_skyline .nil pass0) (pa_cons (pe_meth0 (pv 0) T.cl_Stock T.m_Stock_turns G_Stock_turns (hr.mono (by decide)) b_Stock_turns .nil pass0) (pa_cons (pe_meth0 (pv 0) T.cl_Stock T.m_Stock_spare G_Stock_spare (hr.mono (by decide)) b_Stock_spare .nil pass0) (pa_cons (pe_meth0 (pv 0) T.cl_Stock T.m_Stock_can_give G_Stock_can_give (hr.mono (by decide)) b_Stock_can_give .nil pass0) pa_nil)))))))))), ?_⟩
    try dsimp only [cxOf, Cx.nox, Cx.wish, List.map]
    refine h.reading fun F As M rs M' o hΦ hL B S hB hA post => ?_
    obtain ⟨t, bs, ps, rfl, rfl, ht, sb, sp, lb, lp, rfl, rfl⟩ := hΦ
    have v0 : ∀ {M : List MC} {E : List (Option Rv)}, E[0]? = some (some (.dat (stkD ad t bs ps))) → EvD K (tVar 0) M E M (.dat (stkD ad t bs ps)) := fun z => ev_var z
    exact s_ret S (r := .dat (tolD t bs ps)) (M' := []) (ev_tup (rs := [rint t, rints (sortI bs), rints (sortI ps), rints (skyR t bs ps), rint (trn ([(ps.length : Int)] ++ skyR t bs ps ++ [(bs.length : Int)])), rint (sprV t bs ps), .dat (pairsD (goL bs ps))]) (ea_cons (ev_stop (v0 rfl)) (ea_cons (ev_sbores (v0 rfl)) (ea_cons (ev_spins (v0 rfl)) (ea_cons (ev_ssky (v0 rfl) ⟨by omega, by omega⟩ sb sp) (ea_cons (ev_strn (v0 rfl) ⟨by omega, by omega⟩ sb sp) (ea_cons (ev_sspr (v0 rfl) ⟨by omega, by omega⟩ sb sp) (ea_cons (ev_scan (v0 rfl) lb lp) ea_nil))))))) rfl (Nat.le_of_ble_eq_true rfl)) fun v F As σ H S r => post _ _ _ _ _ _ _ S rfl r
def ph_due : List MC → List Rv → List MC → Out → Prop := fun M rs M' o => ∃ t bs ps, M = [] ∧ rs = [rint t, rints bs, rints ps] ∧ (1 ≤ t ∧ t ≤ 60) ∧ Sz t bs ∧ Sz t ps ∧ bs.length < 64 ∧ ps.length < 64 ∧ M' = [] ∧ o = .ret (tolD t bs ps)
abbrev sp__law_due (K : PySem.W.Frag) : Sp := FSp K ph_due
theorem ok__law_due {P : Program} {w : World} {K : PySem.W.Frag} {mg : Str → Option Value} {base : Heap} {ad : Ad} {fd : Fd} (T : Txt K mg w ad fd) : FnOk P w K mg base CX0 3 ad.a__law_due fd.d__law_due ["top", "bores", "pins"] (sp__law_due K) := by
  have G__law_bent := ok__law_bent (P := P) (base := base) T
  have b__law_bent := T.F__law_bent.binds (ps := ["row", "q", "p"]) fun _ _ _ _ _ _ us hl => match us, hl with | [_, _, _], _ => rfl
  have G__law_couples := ok__law_couples (P := P) (base := base) T
  have b__law_couples := T.F__law_couples.binds (ps := ["bores", "pins"]) fun _ _ _ _ _ _ us hl => match us, hl with | [_, _], _ => rfl
  have G__law_exact_many := ok__law_exact_many (P := P) (base := base) T
  have b__law_exact_many := T.F__law_exact_many.binds (ps := ["bores", "pins"]) fun _ _ _ _ _ _ us hl => match us, hl with | [_, _], _ => rfl
  have G__law_sky := ok__law_sky (P := P) (base := base) T
  have b__law_sky := T.F__law_sky.binds (ps := ["top", "bores", "pins"]) fun _ _ _ _ _ _ us hl => match us, hl with | [_, _, _], _ => rfl
  refine L2.Fun.ok (k := 2) T.F__law_due sc__law_due (fun vs H Q E h => ?_) (fun cdv A outer s H vs Q E hr h => ?_)
  · exact h.len fun M rs M' o ⟨_, _, _, _, e, _⟩ => by rw [e]; rfl
  · have hu := hu_of hr
    refine ⟨_, (pss_cons (ps_set (i := 3) sc__law_due.nd rfl (by first | exact Or.inl rfl | exact Or.inr rfl) (pe_call G__law_sky (hr.mono (by first | decide | omega)) rfl T.g__law_sky T.F__law_sky.kp b__law_sky .nil pass0 (pa_cons (pv 0) (pa_cons (pv 1) (pa_cons (pv 2) pa_nil)))))
  (pss_cons (ps_set (i := 4) sc__law_due.nd rfl (by first | exact Or.inl rfl | exact Or.inr rfl) (pe_call G__law_bent (hr.mono (by first | decide | omega)) rfl T.g__law_bent T.F__law_bent.kp b__law_bent .nil pass0 (pa_cons (pv 3) (pa_cons (pe_callB (call_lenK (K := K) rfl) (by rfl) T.n_len (by decide +kernel) (pa_cons (pv 1) pa_nil)) (pa_cons (pe_callB (call_lenK (K := K) rfl) (by rfl) T.n_len (by decide +kernel) (pa_cons (pv 2) pa_nil)) pa_nil)))))
  (pss_one (ps_ret (pe_tup (pa_cons (pv 0) (pa_cons (pe_callB (cr_sortedK (K := K) rfl) (by rfl) T.n_sorted (by decide +kernel) (pa_cons (pv 1) pa_nil)) (pa_cons (pe_callB (cr_sortedK (K := K) rfl) (by rfl) T.n_sorted (by decide +kernel) (pa_cons (pv 2) pa_nil)) (pa_cons (pv 3) (pa_cons (pv 4) (pa_cons (pe_call G__law_exact_many (hr.mono (by first | decide | omega)) rfl T.g__law_exact_many T.F__law_exact_many.kp b__law_exact_many .nil pass0 (pa_cons (pv 1) (pa_cons (pv 2) pa_nil))) (pa_cons (pe_call G__law_couples (hr.mono (by first | decide | omega)) rfl T.g__law_couples T.F__law_couples.kp b__law_couples .nil pass0 (pa_cons (pv 1) (pa_cons (pv 2) pa_nil))) pa_nil)))))))))))), ?_⟩
    try dsimp only [cxOf, Cx.nox, Cx.wish, List.map]
    refine h.reading fun F As M rs M' o hΦ hL B S hB hA post => ?_
    obtain ⟨t, bs, ps, rfl, rfl, ht, sb, sp, lb, lp, rfl, rfl⟩ := hΦ
    have ls := sky_len (t := t) (bs := bs) (ps := ps)
    refine q_set S (r := rints (skyR t bs ps)) (M' := []) (ev_call0 (ea_cons (ev_var (r := rint t) rfl) (ea_cons (ev_var (r := rints bs) rfl) (ea_cons (ev_var (r := rints ps) rfl) ea_nil))) (by intro z; cases z) ⟨t, bs, ps, rfl, rfl, arg_of ⟨by omega, by omega⟩ (by omega) (by omega), rfl, rfl⟩) ?_
    intro F As σ H S
    try simp only [List.set_cons_zero, List.set_cons_succ] at S
    refine q_set S (r := rint (trn ([(ps.length : Int)] ++ skyR t bs ps ++ [(bs.length : Int)]))) (M' := []) (ev_call0 (ea_cons (ev_var (r := rints (skyR t bs ps)) rfl) (ea_cons (ev_cb (ea_cons (ev_var (r := rints bs) rfl) ea_nil) (cd_lenI (.inl rfl))) (ea_cons (ev_cb (ea_cons (ev_var (r := rints ps) rfl) ea_nil) (cd_lenI (.inl rfl))) ea_nil))) (by intro z; cases z) ⟨skyR t bs ps, (bs.length : Int), (ps.length : Int), rfl, rfl, by omega, rfl, rfl⟩) ?_
    intro F As σ H S
    try simp only [List.set_cons_zero, List.set_cons_succ] at S
    exact s_ret S (r := .dat (tolD t bs ps)) (M' := []) (ev_tup (rs := [rint t, rints (sortI bs), rints (sortI ps), rints (skyR t bs ps), rint (trn ([(ps.length : Int)] ++ skyR t bs ps ++ [(bs.length : Int)])), rint (sprV t bs ps), .dat (pairsD (goL bs ps))]) (ea_cons (ev_var rfl) (ea_cons (ev_cb (ea_cons (ev_var (r := rints bs) rfl) ea_nil) (cd_sorted (.inl rfl))) (ea_cons (ev_cb (ea_cons (ev_var (r := rints ps) rfl) ea_nil) (cd_sorted (.inl rfl))) (ea_cons (ev_var rfl) (ea_cons (ev_var rfl) (ea_cons (ev_is (ev_call0 (d := .int (exF bs ps)) (ea_cons (ev_var (r := rints bs) rfl) (ea_cons (ev_var (r := rints ps) rfl) ea_nil)) (by intro z; cases z) ⟨bs, ps, rfl, rfl, by omega, by omega, rfl, rfl⟩) (by rw [exF_spr ht.1 ps bs sb sp])) (ea_cons (ev_call0 (ea_cons (ev_var (r := rints bs) rfl) (ea_cons (ev_var (r := rints ps) rfl) ea_nil)) (by intro z; cases z) ⟨bs, ps, rfl, rfl, lb, lp, rfl, rfl⟩) ea_nil))))))) rfl (Nat.le_of_ble_eq_true rfl)) fun v F As σ H S r => post _ _ _ _ _ _ _ S rfl r
def kepB (t : Int) (bs ps row : List Int) (q : Int × Int) : Bool := wthB (skyR t (remI q.2 bs) (remI q.1 ps)) row
def ph_kep : List MC → List Rv → List MC → Out → Prop := fun M rs M' o => ∃ t bs ps q row, M = [] ∧ rs = [rint t, rints bs, rints ps, .dat (pairD q), rints row] ∧ (1 ≤ t ∧ t ≤ 60) ∧ bs.length ≤ 1000 ∧ ps.length ≤ 1000 ∧ row.length = t.toNat ∧ q.1 ∈ ps ∧ q.2 ∈ bs ∧ M' = [] ∧ o = .ret (.bl (kepB t bs ps row q))
abbrev sp__law_k09_keeps (K : PySem.W.Frag) : Sp := FSp K ph_kep
theorem ok__law_k09_keeps {P : Program} {w : World} {K : PySem.W.Frag} {mg : Str → Option Value} {base : Heap} {ad : Ad} {fd : Fd} (T : Txt K mg w ad fd) : FnOk P w K mg base CX0 3 ad.a__law_k09_keeps fd.d__law_k09_keeps ["top", "bores", "pins", "pair", "row"] (sp__law_k09_keeps K) := by
  have G__law_sky := ok__law_sky (P := P) (base := base) T
  have b__law_sky := T.F__law_sky.binds (ps := ["top", "bores", "pins"]) fun _ _ _ _ _ _ us hl => match us, hl with | [_, _, _], _ => rfl
  have G__law_within := ok__law_within (P := P) (base := base) T
  have b__law_within := T.F__law_within.binds (ps := ["row", "other"]) fun _ _ _ _ _ _ us hl => match us, hl with | [_, _], _ => rfl
  have G__law_without := ok__law_without (P := P) (base := base) T
  have b__law_without := T.F__law_without.binds (ps := ["pieces", "piece"]) fun _ _ _ _ _ _ us hl => match us, hl with | [_, _], _ => rfl
  refine L2.Fun.ok (k := 2) T.F__law_k09_keeps sc__law_k09_keeps (fun vs H Q E h => ?_) (fun cdv A outer s H vs Q E hr h => ?_)
  · exact h.len fun M rs M' o ⟨_, _, _, _, _, _, e, _⟩ => by rw [e]; rfl
  · have hu := hu_of hr
    refine ⟨_, (pss_cons (ps_set (i := 5) sc__law_k09_keeps.nd rfl (by first | exact Or.inl rfl | exact Or.inr rfl) (pe_call G__law_sky (hr.mono (by first | decide | omega)) rfl T.g__law_sky T.F__law_sky.kp b__law_sky .nil pass0 (pa_cons (pv 0) (pa_cons (pe_call G__law_without (hr.mono (by first | decide | omega)) rfl T.g__law_without T.F__law_without.kp b__law_without .nil pass0 (pa_cons (pv 1) (pa_cons (pe_ix (ix_tupK (K := K) rfl) (pv 3) (pe_int) (fun _ _ => rfl)) pa_nil))) (pa_cons (pe_call G__law_without (hr.mono (by first | decide | omega)) rfl T.g__law_without T.F__law_without.kp b__law_without .nil pass0 (pa_cons (pv 2) (pa_cons (pe_ix (ix_tupK (K := K) rfl) (pv 3) (pe_int) (fun _ _ => rfl)) pa_nil))) pa_nil)))))
  (pss_one (ps_ret (pe_call G__law_within (hr.mono (by first | decide | omega)) rfl T.g__law_within T.F__law_within.kp b__law_within .nil pass0 (pa_cons (pv 5) (pa_cons (pv 4) pa_nil)))))), ?_⟩
    try dsimp only [cxOf, Cx.nox, Cx.wish, List.map]
    refine h.reading fun F As M rs M' o hΦ hL B S hB hA post => ?_
    obtain ⟨t, bs, ps, q, row, rfl, rfl, ht, lb, lp, lr, hp, hb, rfl, rfl⟩ := hΦ
    have l1 := rem_len hb
    have l2 := rem_len hp
    have ls := sky_len (t := t) (bs := remI q.2 bs) (ps := remI q.1 ps)
    refine q_set S (r := rints (skyR t (remI q.2 bs) (remI q.1 ps))) (M' := []) (ev_call0 (ea_cons (ev_var (r := rint t) rfl) (ea_cons (ev_call0 (d := .lst ((remI q.2 bs).map D.int)) (ea_cons (ev_var (r := rints bs) rfl) (ea_cons (ev_op (ev_var (r := .dat (pairD q)) rfl) ev_int (od_ixT (d := .int q.2) rfl)) ea_nil)) (by intro z; cases z) ⟨bs, q.2, rfl, rfl, hb, lb, rfl, rfl⟩) (ea_cons (ev_call0 (d := .lst ((remI q.1 ps).map D.int)) (ea_cons (ev_var (r := rints ps) rfl) (ea_cons (ev_op (ev_var (r := .dat (pairD q)) rfl) ev_int (od_ixT (d := .int q.1) rfl)) ea_nil)) (by intro z; cases z) ⟨ps, q.1, rfl, rfl, hp, lp, rfl, rfl⟩) ea_nil))) (by intro z; cases z) ⟨t, remI q.2 bs, remI q.1 ps, rfl, rfl, arg_of ⟨by omega, by omega⟩ (by omega) (by omega), rfl, rfl⟩) ?_
    intro F As σ H S
    try simp only [List.set_cons_zero, List.set_cons_succ] at S
    exact s_ret S (r := rbl (kepB t bs ps row q)) (M' := []) (ev_call0 (ea_cons (ev_var (r := rints (skyR t (remI q.2 bs) (remI q.1 ps))) rfl) (ea_cons (ev_var (r := rints row) rfl) ea_nil)) (by intro z; cases z) ⟨skyR t (remI q.2 bs) (remI q.1 ps), row, rfl, rfl, by omega, by omega, rfl, rfl⟩) fun v F As σ H S r => post _ _ _ _ _ _ _ S rfl r
/-! ### the law's step -/
theorem low_iff {t : Int} {bs ps row : List Int} : wthB ((skyR t bs ps).map fun z => z - 1) row = true ↔ ¬ Low t bs ps row := by
  have ls := sky_len (t := t) (bs := bs) (ps := ps)
  have g : ∀ k : Nat, k < t.toNat → gI ((skyR t bs ps).map fun z => z - 1) (k : Int) = gI (skyR t bs ps) (k : Int) - 1 := fun k hk => by
    show ((skyR t bs ps).map fun z => z - 1).getD k 0 = (skyR t bs ps).getD k 0 - 1
    rw [List.getD_eq_getElem?_getD, List.getD_eq_getElem?_getD, List.getElem?_map, List.getElem?_eq_getElem (by omega)]; rfl
  rw [wthB_iff]
  unfold Wth Low
  rw [List.length_map, ls]
  constructor
  · rintro h ⟨k, hk, hh⟩
    have := h k hk
    rw [g k hk] at this
    omega
  · intro h k hk
    rw [g k hk]
    by_cases c : gI row (k : Int) < gI (skyR t bs ps) (k : Int) - 1
    · exact absurd ⟨k, hk, c⟩ h
    · omega
theorem larger_ok {bs ps : List Int} {pin : Int} (nc : ∀ z, z ∈ ps → z ∈ bs → False) : ((bs ++ ps).filter (fun z => decide (pin < z)) ≠ [] → mnI ((bs ++ ps).filter fun z => decide (pin < z)) ∈ bs → bbO bs ps pin = some (mnI ((bs ++ ps).filter fun z => decide (pin < z)))) ∧ ∀ b, bbO bs ps pin = some b → (bs ++ ps).filter (fun z => decide (pin < z)) ≠ [] ∧ mnI ((bs ++ ps).filter fun z => decide (pin < z)) = b := by
  have hm : ∀ z, z ∈ ((bs ++ ps).filter fun z => decide (pin < z)) ↔ (z ∈ bs ∨ z ∈ ps) ∧ pin < z := fun z => by rw [List.mem_filter, List.mem_append, decide_eq_true_eq]
  generalize ((bs ++ ps).filter fun z => decide (pin < z)) = G at hm
  constructor
  · intro hne hb
    have h1 := (hm _).mp (mnI_mem hne)
    refine bbO_spec.mpr ⟨hb, h1.2, fun z hz hpz => mnI_le ((hm z).mpr ⟨.inl hz, hpz⟩), fun z hz z1 z2 => ?_⟩
    have := mnI_le ((hm z).mpr ⟨.inr hz, z1⟩)
    have e : z = mnI G := by omega
    exact nc z hz (e ▸ hb)
  · intro b h
    obtain ⟨b1, b2, b3, b4⟩ := bbO_spec.mp h
    have mb := (hm b).mpr ⟨.inl b1, b2⟩
    have hne := List.ne_nil_of_mem mb
    refine ⟨hne, Int.le_antisymm (mnI_le mb) ?_⟩
    obtain ⟨q1, q2⟩ := (hm _).mp (mnI_mem hne)
    rcases q1 with q | q
    · exact b3 _ q q2
    · by_cases c : mnI G ≤ b
      · exact (b4 _ q q2 c).elim
      · omega
def ph_lst9 : List MC → List Rv → List MC → Out → Prop := fun M rs M' o => ∃ t bs ps row, M = [] ∧ rs = [rint t, rints bs, rints ps, rints row] ∧ (1 ≤ t ∧ t ≤ 60) ∧ Sz t bs ∧ Sz t ps ∧ bs.length ≤ 1000 ∧ ps.length ≤ 1000 ∧ row.length = t.toNat ∧ M' = [] ∧ o = .ret (optP (stepV t bs ps row))
abbrev sp__law_step (K : PySem.W.Frag) : Sp := FSp K ph_lst9
theorem ok__law_step {P : Program} {w : World} {K : PySem.W.Frag} {mg : Str → Option Value} {base : Heap} {ad : Ad} {fd : Fd} (T : Txt K mg w ad fd) : FnOk P w K mg base CX0 3 ad.a__law_step fd.d__law_step ["top", "bores", "pins", "row"] (sp__law_step K) := by
  have G__law_sky := ok__law_sky (P := P) (base := base) T
  have b__law_sky := T.F__law_sky.binds (ps := ["top", "bores", "pins"]) fun _ _ _ _ _ _ us hl => match us, hl with | [_, _, _], _ => rfl
  have G__law_within := ok__law_within (P := P) (base := base) T
  have b__law_within := T.F__law_within.binds (ps := ["row", "other"]) fun _ _ _ _ _ _ us hl => match us, hl with | [_, _], _ => rfl
  refine L2.Fun.ok (k := 2) T.F__law_step sc__law_step (fun vs H Q E h => ?_) (fun cdv A outer s H vs Q E hr h => ?_)
  · exact h.len fun M rs M' o ⟨_, _, _, _, _, e, _⟩ => by rw [e]; rfl
  · have hu := hu_of hr
    refine ⟨_, (pss_cons (ps_setLc (i := 4) rfl sc__law_step.nd rfl rfl (sw_true rfl rfl rfl (by decide +kernel)) (pi_listK (K := K) rfl (pe_callB (cr_sortedK (K := K) rfl) (by rfl) T.n_sorted (by decide +kernel) (pa_cons (pv 2) pa_nil))) (blkOk_by (own := [("pin", 5)]) (N := N__law_step) (sc := defScope s__law_step) (by decide +kernel)) (fun _ _ _ _ _ => (pg_name (i := 5) sc__law_step.nd rfl (by first | exact Or.inl rfl | exact Or.inr rfl))) (fun _ _ _ _ _ => (pts_one (pt_cmpR (op_inK (K := K) rfl) (pv 5) (pv 1) (by rfl)))) (fun _ _ _ _ _ => (pv 5)))
  (pss_cons (ps_set (i := 6) sc__law_step.nd rfl (by first | exact Or.inl rfl | exact Or.inr rfl) (pe_call G__law_sky (hr.mono (by first | decide | omega)) rfl T.g__law_sky T.F__law_sky.kp b__law_sky .nil pass0 (pa_cons (pv 0) (pa_cons (pv 1) (pa_cons (pv 2) pa_nil)))))
  (pss_cons (ps_if (pt_truthK (K := K) rfl (pv 4)) (pss_cons (ps_if (pt_val (pe_call G__law_within (hr.mono (by first | decide | omega)) rfl T.g__law_within T.F__law_within.kp b__law_within .nil pass0 (pa_cons (pe_lc rfl sc__law_step.nd (pi_listK (K := K) rfl (pv 6)) (blkOk_by (own := [("one", 7)]) (N := N__law_step) (sc := defScope s__law_step) (by decide +kernel)) (fun _ _ _ _ _ => (pg_name (i := 7) sc__law_step.nd rfl (by first | exact Or.inl rfl | exact Or.inr rfl))) (fun _ _ _ _ _ => pts_nil) (fun _ _ _ _ _ => (pe_op op_sub (pv 7) (pe_int)))) (pa_cons (pv 3) pa_nil)))) (pss_one (ps_ret (pe_tup (pa_cons (pe_ix (ix_listK (K := K) rfl) (pv 4) (pe_int) (fun _ _ => rfl)) (pa_cons (pe_ix (ix_listK (K := K) rfl) (pv 4) (pe_int) (fun _ _ => rfl)) pa_nil))))) pss_nil)
  (pss_one (ps_ret (pe_non)))) pss_nil)
  (pss_cons (ps_if (pt_not (pt_val (pe_call G__law_within (hr.mono (by first | decide | omega)) rfl T.g__law_within T.F__law_within.kp b__law_within .nil pass0 (pa_cons (pe_lc rfl sc__law_step.nd (pi_listK (K := K) rfl (pv 6)) (blkOk_by (own := [("one", 7)]) (N := N__law_step) (sc := defScope s__law_step) (by decide +kernel)) (fun _ _ _ _ _ => (pg_name (i := 7) sc__law_step.nd rfl (by first | exact Or.inl rfl | exact Or.inr rfl))) (fun _ _ _ _ _ => pts_nil) (fun _ _ _ _ _ => (pe_op op_sub (pv 7) (pe_int)))) (pa_cons (pv 3) pa_nil))))) (pss_one (ps_ret (pe_non))) pss_nil)
  (pss_cons (ps_for PassesOwn.never rfl (pi_listK (K := K) rfl (pe_callB (cr_sortedK (K := K) rfl) (by rfl) T.n_sorted (by decide +kernel) (pa_cons (pv 2) pa_nil))) (pg_name (i := 5) sc__law_step.nd rfl (by first | exact Or.inl rfl | exact Or.inr rfl))
  (pss_cons (ps_setLc (i := 8) rfl sc__law_step.nd rfl rfl (sw_true rfl rfl rfl (by decide +kernel)) (pi_listK (K := K) rfl (pe_op op_cat (pe_callTy (call_listK (K := K) rfl) (by rfl) T.n_list (by decide +kernel) (pa_cons (pv 1) pa_nil)) (pe_callTy (call_listK (K := K) rfl) (by rfl) T.n_list (by decide +kernel) (pa_cons (pv 2) pa_nil)))) (blkOk_by (own := [("size", 9)]) (N := N__law_step) (sc := defScope s__law_step) (by decide +kernel)) (fun _ _ _ _ _ => (pg_name (i := 9) sc__law_step.nd rfl (by first | exact Or.inl rfl | exact Or.inr rfl))) (fun _ _ _ _ _ => (pts_one (pt_cmpR op_gt (pv 9) (pv 5) (nomark _)))) (fun _ _ _ _ _ => (pv 9)))
  (pss_one (ps_if (PW.pt (pw_and (pt_truthK (K := K) rfl (pv 8)) (pw_and1 (pt_cmpR (op_inK (K := K) rfl) (pe_callB (cr_minK' (K := K) rfl rfl) (by rfl) T.n_min (by decide +kernel) (pa_cons (pv 8) pa_nil)) (pv 1) (by rfl))))) (pss_cons (ps_set (i := 10) sc__law_step.nd rfl (by first | exact Or.inl rfl | exact Or.inr rfl) (pe_callB (cr_minK' (K := K) rfl rfl) (by rfl) T.n_min (by decide +kernel) (pa_cons (pv 8) pa_nil)))
  (pss_one (ps_if (pt_cmpR op_eq (pe_callB (call_lenK (K := K) rfl) (by rfl) T.n_len (by decide +kernel) (pa_cons (pe_lc rfl sc__law_step.nd (pi_range2 (by rfl) T.n_range (pa_cons (pe_op op_add (pv 5) (pe_int)) (pa_cons (pe_op op_add (pv 10) (pe_int)) pa_nil))) (blkOk_by (own := [("e", 11)]) (N := N__law_step) (sc := defScope s__law_step) (by decide +kernel)) (fun _ _ _ _ _ => (pg_name (i := 11) sc__law_step.nd rfl (by first | exact Or.inl rfl | exact Or.inr rfl))) (fun _ _ _ _ _ => (pts_one (pt_cmpR op_gt (pe_ix (ix_listK (K := K) rfl) (pv 6) (pe_op op_sub (pv 11) (pe_int)) (fun _ _ => rfl)) (pe_ix (ix_listK (K := K) rfl) (pv 3) (pe_op op_sub (pv 11) (pe_int)) (fun _ _ => rfl)) (nomark _)))) (fun _ _ _ _ _ => (pv 11))) pa_nil)) (pe_int) (nomark _)) (pss_one (ps_ret (pe_tup (pa_cons (pv 5) (pa_cons (pv 10) pa_nil))))) pss_nil))) pss_nil))))
  (pss_one (ps_ret (pe_non)))))))), ?_⟩
    try dsimp only [cxOf, Cx.nox, Cx.wish, List.map]
    refine h.reading fun F As M rs M' o hΦ hL B S hB hA post => ?_
    obtain ⟨t, bs, ps, row, rfl, rfl, ht, sb, sp, lb, lp, lr, rfl, rfl⟩ := hΦ
    dsimp only at post
    have ls := sky_len (t := t) (bs := bs) (ps := ps)
    have l2 := sortI_length ps
    have srt : ∀ {M : List MC} {E : List (Option Rv)}, E[2]? = some (some (rints ps)) → EvD K (tCB (rSortedI K) (tCons (tVar 2) tNil)) M E M (rints (sortI ps)) := fun z => ev_cb (ea_cons (ev_var z) ea_nil) (cd_sorted (.inl rfl))
    refine q_set S (r := rints ((sortI ps).filter fun z => decide (z ∈ bs))) (M' := []) (ev_is (ev_lcLII (ns := sortI ps) (fun z => decide (z ∈ bs)) (fun z => z) (srt rfl) (by omega) (fun z hz => et_test (ev_op (ev_var (r := rint z) rfl) (ev_var (r := rints bs) rfl) (od_inI (.inl rfl)))) (fun z hz _ => ev_var rfl)) (by rw [List.map_id'])) ?_
    intro F As σ H S
    try simp only [List.set_cons_zero, List.set_cons_succ] at S
    refine q_set S (r := rints (skyR t bs ps)) (M' := []) (ev_call0 (ea_cons (ev_var (r := rint t) rfl) (ea_cons (ev_var (r := rints bs) rfl) (ea_cons (ev_var (r := rints ps) rfl) ea_nil))) (by intro z; cases z) ⟨t, bs, ps, rfl, rfl, arg_of ⟨by omega, by omega⟩ (by omega) (by omega), rfl, rfl⟩) ?_
    intro F As σ H S
    try simp only [List.set_cons_zero, List.set_cons_succ] at S
    have wth : ∀ {M : List MC} {E : List (Option Rv)}, E[6]? = some (some (rints (skyR t bs ps))) → E[3]? = some (some (rints row)) → 7 < E.length → EvD K (tCall (sp__law_within K) [] E0 (tCons (tLc (iList K (tVar 6)) (gName 7) tYes (tOp (rI0 fun i j => .int (i - j)) (tVar 7) (tC (.int 1))) [7]) (tCons (tVar 3) tNil))) M E M (rbl (wthB ((skyR t bs ps).map fun z => z - 1) row)) := fun {M E} z6 z3 z7 => ev_call0 (ea_cons (ev_lcLAI (ns := skyR t bs ps) (fun z => z - 1) (ev_var z6) (by omega) (fun z hz => ev_op (ev_var (r := rint z) (by rw [List.getElem?_set_self z7])) ev_int od_int)) (ea_cons (ev_var z3) ea_nil)) (by intro z; cases z) ⟨_, row, rfl, rfl, by rw [List.length_map]; omega, by rw [List.length_map]; omega, rfl, rfl⟩
    have hfind : exO bs ps = ((sortI ps).filter fun z => decide (z ∈ bs)).head? := by unfold exO; rw [List.head?_filter]
    generalize ((sortI ps).filter fun z => decide (z ∈ bs)) = X at S hfind
    cases X with
    | cons s X =>
      have hx : exO bs ps = some s := hfind
      refine q_if S (b := true) (et_is (et_truL (ds := (s :: X).map D.int) (ev_var (r := rints (s :: X)) rfl) (.inl rfl)) rfl) ?_ (fun hc => by cases hc)
      intro _ F As σ H S
      refine q_if S (b := wthB ((skyR t bs ps).map fun z => z - 1) row) (et_B (wth rfl rfl (Nat.le_of_ble_eq_true rfl))) ?_ ?_
      · intro hc F As σ H S
        have e : stepV t bs ps row = some (s, s) := by
          unfold stepV
          rw [if_neg (low_iff.mp hc), hx]
        rw [e] at post
        have e0 : ∀ {M : List MC} {E : List (Option Rv)}, E[4]? = some (some (rints (s :: X))) → EvD K (tOp (rIxL K) (tVar 4) (tC (.int 0))) M E M (rint s) := fun z => ev_is (ev_op (ev_var z) ev_int (od_ixI (i := 0) (.inl rfl) (Int.le_refl _) (by rw [List.length_cons]; omega))) (show _ = rint s from rfl)
        refine s_ret S (r := .dat (pairD (s, s))) (M' := []) (ev_tup (rs := [rint s, rint s]) (ea_cons (e0 rfl) (ea_cons (e0 rfl) ea_nil)) rfl (Nat.le_of_ble_eq_true rfl)) ?_
        intro v F As σ H S r
        exact post _ _ _ _ _ _ _ S rfl r
      · intro hc F As σ H S
        have e : stepV t bs ps row = none := by
          unfold stepV
          rw [if_pos (by
            by_cases c : Low t bs ps row
            · exact c
            · rw [low_iff.mpr c] at hc; cases hc)]
        rw [e] at post
        refine s_next S ?_
        intro F As σ H S
        try dsimp only
        refine s_ret S (r := .dat .non) (M' := []) ev_non ?_
        intro v F As σ H S r
        exact post _ _ _ _ _ _ _ S rfl r
    | nil =>
    have hx : exO bs ps = none := hfind
    have nc := no_common hx
    refine q_if S (b := false) (et_is (et_truL (ds := ([] : List Int).map D.int) (ev_var (r := rints []) rfl) (.inl rfl)) rfl) (fun hc => by cases hc) ?_
    intro _ F As σ H S
    refine s_next S ?_
    intro F As σ H S
    try dsimp only
    refine q_if S (b := !wthB ((skyR t bs ps).map fun z => z - 1) row) (et_not (et_B (wth rfl rfl (Nat.le_of_ble_eq_true rfl)))) ?_ ?_
    · intro hc F As σ H S
      have hc : wthB ((skyR t bs ps).map fun z => z - 1) row = false := by simpa using hc
      have e : stepV t bs ps row = none := by
        unfold stepV
        rw [if_pos (by
          by_cases c : Low t bs ps row
          · exact c
          · rw [low_iff.mpr c] at hc; cases hc)]
      rw [e] at post
      refine s_ret S (r := .dat .non) (M' := []) ev_non ?_
      intro v F As σ H S r
      exact post _ _ _ _ _ _ _ S rfl r
    intro hc F As σ H S
    have hlow : ¬ Low t bs ps row := low_iff.mp (by simpa using hc)
    refine s_next S ?_
    intro F As σ H S
    try dsimp only
    refine' q_forI S (ns := sortI ps) (srt rfl) (.inl rfl) (fun i M E => M = [] ∧ (∀ j y, j < i → (sortI ps)[j]? = some y → okB t bs ps row y = false) ∧ ∃ x5 x7 x8 x9 x10 x11, E = [some (rint t), some (rints bs), some (rints ps), some (rints row), some (rints []), x5, some (rints (skyR t bs ps)), x7, x8, x9, x10, x11]) ⟨rfl, fun j y hj => absurd hj (Nat.not_lt_zero _), _, _, _, _, _, _, rfl⟩ (fun i M E h => .inl rfl) ?cb ?cd
    case cd =>
      rintro M E ⟨rfl, hj, x5, x7, x8, x9, x10, x11, rfl⟩ F As σ H S
      have e : stepV t bs ps row = none := by
        unfold stepV
        rw [if_neg hlow, hx]
        dsimp only
        rw [find_no hj]
      rw [e] at post
      try dsimp only
      refine s_ret S (r := .dat .non) (M' := []) ev_non ?_
      intro v F As σ H S r
      exact post _ _ _ _ _ _ _ S rfl r
    case cb =>
      rintro B2 cv i pin M E hi ⟨rfl, hj, x5, x7, x8, x9, x10, x11, rfl⟩ F As σ H S
      try simp only [List.set_cons_zero, List.set_cons_succ] at S
      have hpin := sp pin (mem_sortI.mp (List.mem_of_getElem? hi))
      have step1 : ∀ (hn : okB t bs ps row pin = false), ∀ j y, j < i + 1 → (sortI ps)[j]? = some y → okB t bs ps row y = false := fun hn j y hj2 hy => by
        by_cases e : j = i
        · subst e
          rw [hi] at hy
          cases hy
          exact hn
        · exact hj j y (by omega) hy
      obtain ⟨lo1, lo2⟩ := larger_ok (pin := pin) nc
      have lfil : ((bs ++ ps).filter fun z => decide (pin < z)).length ≤ 2000 := Nat.le_trans (List.length_filter_le _ _) (by rw [List.length_append]; omega)
      refine q_set S (r := rints ((bs ++ ps).filter fun z => decide (pin < z))) (M' := []) (ev_is (ev_lcLII (ns := bs ++ ps) (fun z => decide (pin < z)) (fun z => z) (ev_is (ev_op (ev_cb (ea_cons (ev_var (r := rints bs) rfl) ea_nil) (cd_list (ds := bs.map D.int) (.inl rfl))) (ev_cb (ea_cons (ev_var (r := rints ps) rfl) ea_nil) (cd_list (ds := ps.map D.int) (.inl rfl))) (od_cat (.inl rfl) (.inl rfl) (by rw [List.length_map, List.length_map]; omega))) (rints_cat bs ps)) (by rw [List.length_append]; omega) (fun z hz => et_test (ev_op (ev_var (r := rint z) rfl) (ev_var (r := rint pin) rfl) od_bool)) (fun z hz _ => ev_var rfl)) (by rw [List.map_id'])) ?_
      intro F As σ H S
      try simp only [List.set_cons_zero, List.set_cons_succ] at S
      generalize ((bs ++ ps).filter fun z => decide (pin < z)) = G at S lo1 lo2 lfil
      have emp : (!(G.map D.int).isEmpty) = decide (G ≠ []) := by cases G <;> rfl
      refine s_if S (b := decide (G ≠ []) && decide (mnI G ∈ bs)) (et_and (et_is (et_truL (ds := G.map D.int) (ev_var (r := rints G) rfl) (.inl rfl)) emp) fun hg => et_test (ev_op (ev_cb (ea_cons (ev_var (r := rints G) rfl) ea_nil) (cd_min (.inl rfl) (List.length_pos_iff.mpr (of_decide_eq_true hg)))) (ev_var (r := rints bs) rfl) (od_inI (.inl rfl)))) ?_ ?_
      · intro hc F As σ H S
        rw [Bool.and_eq_true, decide_eq_true_eq, decide_eq_true_eq] at hc
        have hbb := lo1 hc.1 hc.2
        have hl := List.length_pos_iff.mpr hc.1
        refine q_set S (r := rint (mnI G)) (M' := []) (ev_cb (ea_cons (ev_var (r := rints G) rfl) ea_nil) (cd_min (.inl rfl) hl)) ?_
        intro F As σ H S
        try simp only [List.set_cons_zero, List.set_cons_succ] at S
        generalize mnI G = b at S hbb hc
        have hbt := sb b hc.2
        have hok : okB t bs ps row pin = ((List.range (b - pin).toNat).map fun (k : Nat) => decide (gI (skyR t bs ps) (pin + (k : Int)) ≤ gI row (pin + (k : Int)))).all id := by unfold okB; rw [hbb]
        have hlen : decide (((givD ((b + 1) - (pin + 1)).toNat (fun k => decide (gI row (pin + (k : Int)) < gI (skyR t bs ps) (pin + (k : Int)))) (fun k => D.int (pin + 1 + (k : Int)))).length : Int) = 0) = okB t bs ps row pin := by
          rw [hok, show ((b + 1) - (pin + 1)).toNat = (b - pin).toNat by omega]
          unfold givD
          rw [List.length_map]
          generalize (b - pin).toNat = n
          rw [Bool.eq_iff_iff, decide_eq_true_eq, List.all_eq_true]
          constructor
          · intro q x hx
            obtain ⟨k, hk, rfl⟩ := List.mem_map.mp hx
            have q0 : ((List.range n).filter fun (k : Nat) => decide (gI row (pin + (k : Int)) < gI (skyR t bs ps) (pin + (k : Int)))) = [] := List.eq_nil_of_length_eq_zero (by omega)
            have := List.filter_eq_nil_iff.mp q0 k hk
            rw [decide_eq_true_eq] at this
            exact decide_eq_true (by omega)
          · intro q
            rw [List.filter_eq_nil_iff.mpr fun k hk => by
              have := of_decide_eq_true (q _ (List.mem_map.mpr ⟨k, hk, rfl⟩))
              rw [decide_eq_true_eq]
              omega]
            rfl
        refine s_if S (b := okB t bs ps row pin) (et_is (et_test (ev_op (ev_cb (ea_cons (ev_lcR2 (a := pin + 1) (n := b + 1) (fun _ => []) (fun k => decide (gI row (pin + (k : Int)) < gI (skyR t bs ps) (pin + (k : Int)))) (fun k => D.int (pin + 1 + (k : Int))) (ea_cons (ev_op (ev_var (r := rint pin) rfl) ev_int od_int) (ea_cons (ev_op (ev_var (r := rint b) rfl) ev_int od_int) ea_nil)) ⟨by omega, by omega, by omega, by omega⟩ rfl fun k hk => LcT.tested (et_test (ev_op (ev_is (ev_op (ev_var (r := rints (skyR t bs ps)) rfl) (ev_op (ev_var (r := rint (pin + 1 + (k : Int))) rfl) ev_int od_int) (od_ixI (.inl rfl) (by omega) (by omega))) (show _ = rint (gI (skyR t bs ps) (pin + (k : Int))) by rw [show pin + 1 + (k : Int) - 1 = pin + (k : Int) by omega])) (ev_is (ev_op (ev_var (r := rints row) rfl) (ev_op (ev_var (r := rint (pin + 1 + (k : Int))) rfl) ev_int od_int) (od_ixI (.inl rfl) (by omega) (by omega))) (show _ = rint (gI row (pin + (k : Int))) by rw [show pin + 1 + (k : Int) - 1 = pin + (k : Int) by omega])) od_bool)) (fun _ => ev_var rfl)) ea_nil) (cd_len (.inl rfl))) ev_int od_eqI)) hlen) ?_ ?_
        · intro hk F As σ H S
          have e : stepV t bs ps row = some (pin, b) := by
            unfold stepV
            rw [if_neg hlow, hx]
            dsimp only
            rw [find_at hi hk hj]
            dsimp only
            rw [hbb]; rfl
          rw [e] at post
          refine s_ret (cv S) (r := .dat (pairD (pin, b))) (M' := []) (ev_tup (rs := [rint pin, rint b]) (ea_cons (ev_var rfl) (ea_cons (ev_var rfl) ea_nil)) rfl (Nat.le_of_ble_eq_true rfl)) ?_
          intro v F As σ H S r
          exact post _ _ _ _ _ _ _ S rfl r
        · intro hk F As σ H S
          refine s_next S ?_
          intro F As σ H S
          exact s_end S ⟨rfl, step1 hk, _, _, _, _, _, _, rfl⟩ (Ele.refl _)
      · intro hc F As σ H S
        have hn : okB t bs ps row pin = false := by
          cases hbb : bbO bs ps pin with
          | none => unfold okB; rw [hbb]
          | some b =>
            obtain ⟨g1, g2⟩ := lo2 b hbb
            obtain ⟨m1, _⟩ := bbO_spec.mp hbb
            rw [decide_eq_true g1, g2, decide_eq_true m1] at hc
            cases hc
        refine s_next S ?_
        intro F As σ H S
        exact s_end S ⟨rfl, step1 hn, _, _, _, _, _, _, rfl⟩ (Ele.refl _)
end K09
set_option Elab.async false
set_option linter.all false
set_option maxRecDepth 100000
set_option maxHeartbeats 4000000
namespace K09
open PySem L2 DL
/-! ### the steps: one rule an expression, by its reading's head -/
local macro_rules | `(tactic| wtm_at "ev") => `(tactic| first
  | exact ev_var rfl
  | exact ev_int
  | exact ev_non
  | exact ev_bl
  | exact ev_str
  | exact ea_nil
  | with_reducible apply ea_cons
  | ((with_reducible refine' ev_isi ?a ?b ?c); (case' a => repeat' wtm_at "ev"); (case' b => exact rfl); (case' c => exact rfl))
  | with_reducible apply ev_cb
  | with_reducible apply ev_op
  | with_reducible apply ev_un
  | with_reducible apply et_test
  | with_reducible apply et_B
  | with_reducible apply et_not
  | with_reducible apply ev_isN
  | with_reducible apply ev_notN
  | with_reducible apply ev_notV
  | with_reducible apply et_and
  | with_reducible apply et_or
  | with_reducible apply ev_andV
  | with_reducible apply ev_orV
  | with_reducible apply ev_ifI
  | with_reducible apply ev_ifD
  | ((with_reducible refine' ev_dnotin ?a ?b ?c ?d); (case' a => repeat' wtm_at "ev"); (case' b => repeat' wtm_at "ev"); (case' c => exact rfl); (case' d => first | exact .inl rfl | exact .inr ⟨_, rfl, rfl⟩))
  | ((with_reducible refine' ev_din ?a ?b ?c ?d); (case' a => repeat' wtm_at "ev"); (case' b => repeat' wtm_at "ev"); (case' c => exact rfl); (case' d => first | exact .inl rfl | exact .inr ⟨_, rfl, rfl⟩))
  | with_reducible apply ev_lcLAI
  | with_reducible apply ev_lcLII
  | with_reducible apply ev_lcLA
  | with_reducible apply ev_lcLI
  | with_reducible apply ev_lcRAI
  | with_reducible apply ev_lcRI
  | with_reducible apply ev_lcRA
  | with_reducible apply ev_lcR
  | exact et_yes
  | with_reducible intro _
  | exact od_int
  | exact od_bool
  | exact od_eqI
  | exact od_neI
  | exact od_eqS
  | exact od_neS
  | exact ud_neg
  | exact cd_abs
  | exact cd_max2
  | exact cd_min2
  | exact cd_int
  | exact cd_intB
  | exact cd_lenScr
  | exact cd_lenT
  | exact cd_lenI (.inl rfl)
  | exact cd_lenI (.inr ⟨_, rfl, rfl⟩)
  | exact cd_len (.inl rfl)
  | exact cd_len (.inr ⟨_, rfl, rfl⟩)
  | exact cd_lenD (.inl rfl)
  | exact cd_lenD (.inr ⟨_, rfl, rfl⟩)
  | exact cd_sum (.inl rfl)
  | exact cd_sorted (.inl rfl)
  | exact cd_list (.inl rfl)
  | exact cd_listT
  | exact eo_none
  | with_reducible apply eo_some
  | with_reducible apply ev_sliceScr
  | refine' ev_sliceI ?_ ?_ ?_ (.inl rfl)
  | with_reducible apply od_intC
  | with_reducible apply od_ixScr
  | refine' od_ixI (.inl rfl) ?_ ?_
  | refine' od_ixI (.inr ⟨_, rfl, rfl⟩) ?_ ?_
  | exact od_ixT rfl
  | exact od_inI (.inl rfl)
  | exact od_notinI (.inl rfl)
  | refine' od_cat (.inl rfl) (.inl rfl) ?_
  | ((with_reducible refine' ev_tup ?h ?r ?l); (case' h => repeat' wtm_at "ev"); (case' r => exact rfl); (case' l => exact Nat.le_of_ble_eq_true rfl))
  | (refine (show CMul _ _ from .inl ⟨?_, ?_⟩) <;> decide)
  | (refine (show CMul _ _ from .inr ⟨?_, ?_⟩) <;> decide)
  | (refine (show (_ : Prop) from ?_); assumption)
  | (refine (show CDiv _ _ from ⟨?_, ?_⟩) <;> omega)
  | (refine (show CPow _ _ from ⟨?_, ?_, ?_⟩) <;> decide)
  | omega
  | (simp only [Pz.len]; done)
  | (simp only [Pz.len, List.length_map, List.length_append, List.length_range, List.length_set, List.length_reverse]; omega))
/-! a statement's step: its values are reckoned, what is left is the way on -/
local macro_rules | `(tactic| wtm_at "st") => `(tactic| first
  | (refine' q_set (by assumption) ?h ?k; (case' h => repeat' wtm_at "ev"); (case' k => (intro _ _ _ _ _; try dsimp only)))
  | (refine' s_set (by assumption) ?h ?k; (case' h => repeat' wtm_at "ev"); (case' k => (intro _ _ _ _ _; try dsimp only)))
  | (refine' q_augS (by assumption) ?h1 ?h2 ?h3 ?r1 ?r2 ?s1 ?s2 ?k; (case' h1 => repeat' wtm_at "ev"); (case' h2 => repeat' wtm_at "ev"); (case' h3 => repeat' wtm_at "ev"); (case' r1 => exact rfl); (case' r2 => exact rfl); (case' s1 => try wtm_at "ev"); (case' s2 => try wtm_at "ev"); (case' k => (intro _ _ _ _ _; try dsimp only)))
  | (refine' s_augS (by assumption) ?h1 ?h2 ?h3 ?r1 ?r2 ?s1 ?s2 ?k; (case' h1 => repeat' wtm_at "ev"); (case' h2 => repeat' wtm_at "ev"); (case' h3 => repeat' wtm_at "ev"); (case' r1 => exact rfl); (case' r2 => exact rfl); (case' s1 => try wtm_at "ev"); (case' s2 => try wtm_at "ev"); (case' k => (intro _ _ _ _ _; try dsimp only)))
  | (refine' q_setLI (by assumption) ?h ?h1 ?h2 ?r1 ?s1 ?s2 ?k; (case' h => repeat' wtm_at "ev"); (case' h1 => repeat' wtm_at "ev"); (case' h2 => repeat' wtm_at "ev"); (case' r1 => exact rfl); (case' s1 => try wtm_at "ev"); (case' s2 => try wtm_at "ev"); (case' k => (intro _ _ _ _ _; try dsimp only)))
  | (refine' q_setL (by assumption) ?h ?h1 ?h2 ?r1 ?s1 ?s2 ?k; (case' h => repeat' wtm_at "ev"); (case' h1 => repeat' wtm_at "ev"); (case' h2 => repeat' wtm_at "ev"); (case' r1 => exact rfl); (case' s1 => try wtm_at "ev"); (case' s2 => try wtm_at "ev"); (case' k => (intro _ _ _ _ _; try dsimp only)))
  | (refine' s_setLI (by assumption) ?h ?h1 ?h2 ?r1 ?s1 ?s2 ?k; (case' h => repeat' wtm_at "ev"); (case' h1 => repeat' wtm_at "ev"); (case' h2 => repeat' wtm_at "ev"); (case' r1 => exact rfl); (case' s1 => try wtm_at "ev"); (case' s2 => try wtm_at "ev"); (case' k => (intro _ _ _ _ _; try dsimp only)))
  | (refine' s_setL (by assumption) ?h ?h1 ?h2 ?r1 ?s1 ?s2 ?k; (case' h => repeat' wtm_at "ev"); (case' h1 => repeat' wtm_at "ev"); (case' h2 => repeat' wtm_at "ev"); (case' r1 => exact rfl); (case' s1 => try wtm_at "ev"); (case' s2 => try wtm_at "ev"); (case' k => (intro _ _ _ _ _; try dsimp only)))
  | (refine' q_appI (by assumption) ?h1 ?h ?r1 ?r2 ?s ?k; (case' h1 => repeat' wtm_at "ev"); (case' h => repeat' wtm_at "ev"); (case' r1 => exact rfl); (case' r2 => exact rfl); (case' s => try wtm_at "ev"); (case' k => (intro _ _ _ _ _; try dsimp only)))
  | (refine' q_app (by assumption) ?h1 ?h ?r1 ?r2 ?s ?k; (case' h1 => repeat' wtm_at "ev"); (case' h => repeat' wtm_at "ev"); (case' r1 => exact rfl); (case' r2 => exact rfl); (case' s => try wtm_at "ev"); (case' k => (intro _ _ _ _ _; try dsimp only)))
  | (refine' s_appI (by assumption) ?h1 ?h ?r1 ?r2 ?s ?k; (case' h1 => repeat' wtm_at "ev"); (case' h => repeat' wtm_at "ev"); (case' r1 => exact rfl); (case' r2 => exact rfl); (case' s => try wtm_at "ev"); (case' k => (intro _ _ _ _ _; try dsimp only)))
  | (refine' s_app (by assumption) ?h1 ?h ?r1 ?r2 ?s ?k; (case' h1 => repeat' wtm_at "ev"); (case' h => repeat' wtm_at "ev"); (case' r1 => exact rfl); (case' r2 => exact rfl); (case' s => try wtm_at "ev"); (case' k => (intro _ _ _ _ _; try dsimp only)))
  | (refine' q_dput (by assumption) ?h ?h1 ?h2 ?r1 ?r2 ?s ?k; (case' h => repeat' wtm_at "ev"); (case' h1 => repeat' wtm_at "ev"); (case' h2 => repeat' wtm_at "ev"); (case' r1 => exact rfl); (case' r2 => exact rfl); (case' s => try wtm_at "ev"); (case' k => (intro _ _ _ _ _; try dsimp only)))
  | (refine' s_dput (by assumption) ?h ?h1 ?h2 ?r1 ?r2 ?s ?k; (case' h => repeat' wtm_at "ev"); (case' h1 => repeat' wtm_at "ev"); (case' h2 => repeat' wtm_at "ev"); (case' r1 => exact rfl); (case' r2 => exact rfl); (case' s => try wtm_at "ev"); (case' k => (intro _ _ _ _ _; try dsimp only)))
  | (refine' q_tup2 (by assumption) ?h ?k; (case' h => repeat' wtm_at "ev"); (case' k => (intro _ _ _ _ _; try dsimp only)))
  | (refine' q_drop (by assumption) ?h ?k; (case' h => repeat' wtm_at "ev"); (case' k => (intro _ _ _ _ _; try dsimp only)))
  | (refine' q_if (by assumption) ?h ?k1 ?k2; (case' h => repeat' wtm_at "ev"))
  | (refine' s_if (by assumption) ?h ?k1 ?k2; (case' h => repeat' wtm_at "ev"))
  | (refine' s_ret (by assumption) ?h ?k; (case' h => repeat' wtm_at "ev"); (case' k => (intro _ _ _ _ _ _ _; try dsimp only)))
  | (refine' q_ret (by assumption) ?h ?k; (case' h => repeat' wtm_at "ev"); (case' k => (intro _ _ _ _ _ _ _; try dsimp only)))
  | ((with_reducible refine' s_next (by assumption) ?k); (case' k => (intro _ _ _ _ _; try dsimp only)))
  | (with_reducible refine q_next ?_))

theorem get_last {α : Type} (xs : List α) (x : α) : (xs ++ [x])[xs.length]? = some x := get_mid xs x []
section
variable {K : PySem.W.Frag} {ad : Ad} {ta : TA} {Ms R M M1 : List MC} {E : List (Option Rv)} {p : Pz} {t n : Int} {bs ps : List Int}
theorem ev_match {n : Nat} {d : D} (ha : EvA K ta M E M1 [.dat d, .dat d]) (hp : Plain (n + 1) d) : EvD K (tCall (FSp K (ph_match (n + 1))) [] E0 ta) M E M1 (rbl true) := ev_call0 ha (by intro z; cases z) ⟨d, rfl, rfl, hp, rfl, rfl⟩
theorem ev_drawM {m : Int} (ha : EvA K ta M E (Ms ++ pmc p :: R) [.cel Ms.length, rint m]) (h0 : 0 < m) (h1 : m < 1073741824) : EvD K (tCall (FSp K ph_draw) [] E0 ta) M E (Ms ++ pmc (draw p m).2 :: R) (rint (draw p m).1) :=
  ev_isM (ev_draw ha (get_mid _ _ _) h0 h1) (set_mid _ _ _ _)
end
def dkB (p : Pz) (t : Int) (q : Nat) : List Int := (List.range q).map (dAt p (t + 1))
theorem dkB_sz {p : Pz} {t : Int} {q : Nat} (ht : 0 ≤ t) : Sz t (dkB p t q) := fun z hz => by
  obtain ⟨i, _, rfl⟩ := List.mem_map.mp hz
  have := dAt_rng (p := p) (m := t + 1) (by omega) i
  omega
theorem dkB_len {p : Pz} {t : Int} {q : Nat} : (dkB p t q).length = q := by unfold dkB; rw [List.length_map, List.length_range]
theorem set_sz {t z : Int} {xs : List Int} {i : Nat} (h : Sz t xs) (hz : 0 ≤ z ∧ z ≤ t) : Sz t (xs.set i z) := fun y hy => by
  rcases List.mem_or_eq_of_mem_set hy with q | q
  · exact h y q
  · rw [q]; exact hz
/-- the drawn stock: the purse left, bores, pins -/
def dsk (p : Pz) (t : Int) (q n : Nat) : Pz × List Int × List Int :=
  if (draw (pAft (pAft p (t + 1) q) (t + 1) n) 3).1 = 0 then
    ((draw (draw (draw (pAft (pAft p (t + 1) q) (t + 1) n) 3).2 q).2 n).2, dkB p t q, (dkB (pAft p (t + 1) q) t n).set (draw (draw (draw (pAft (pAft p (t + 1) q) (t + 1) n) 3).2 q).2 n).1.toNat (gI (dkB p t q) (draw (draw (pAft (pAft p (t + 1) q) (t + 1) n) 3).2 q).1))
  else ((draw (pAft (pAft p (t + 1) q) (t + 1) n) 3).2, dkB p t q, dkB (pAft p (t + 1) q) t n)
theorem dsk_ok {p : Pz} {t : Int} {q n : Nat} (ht : 0 ≤ t) (hq : 0 < q) : (dsk p t q n).2.1.length = q ∧ (dsk p t q n).2.2.length = n ∧ Sz t (dsk p t q n).2.1 ∧ Sz t (dsk p t q n).2.2 := by
  unfold dsk
  split
  · have r := draw_rng (p := (draw (pAft (pAft p (t + 1) q) (t + 1) n) 3).2) (m := (q : Int)) (by omega)
    exact ⟨dkB_len, by show (List.set _ _ _).length = _; rw [List.length_set]; exact dkB_len, dkB_sz ht, set_sz (dkB_sz ht) (dkB_sz (p := p) (q := q) ht _ (gI_mem r.1 (by rw [dkB_len]; exact r.2)))⟩
  · exact ⟨dkB_len, dkB_len, dkB_sz ht, dkB_sz ht⟩
def ph_dsk : List MC → List Rv → List MC → Out → Prop := fun M rs M' o => ∃ p t q n, M = [pmc p] ∧ rs = [.cel 0, rint t, rint ((q : Nat) : Int), rint ((n : Nat) : Int)] ∧ (0 ≤ t ∧ t ≤ 60) ∧ (1 ≤ q ∧ q ≤ 60) ∧ (1 ≤ n ∧ n ≤ 60) ∧ M' = [pmc (dsk p t q n).1] ∧ o = .ret (twoL (dsk p t q n).2.1 (dsk p t q n).2.2)
abbrev sp__law_drawn_stock (K : PySem.W.Frag) : Sp := FSp K ph_dsk
theorem ok__law_drawn_stock {P : Program} {w : World} {K : PySem.W.Frag} {mg : Str → Option Value} {base : Heap} {ad : Ad} {fd : Fd} (T : Txt K mg w ad fd) : FnOk P w K mg base CX0 2 ad.a__law_drawn_stock fd.d__law_drawn_stock ["purse", "top", "q", "p"] (sp__law_drawn_stock K) := by
  have G__law_draw := ok__law_draw (P := P) (base := base) T
  have b__law_draw := T.F__law_draw.binds (ps := ["purse", "many"]) fun _ _ _ _ _ _ us hl => match us, hl with | [_, _], _ => rfl
  refine L2.Fun.ok (k := 1) T.F__law_drawn_stock sc__law_drawn_stock (fun vs H Q E h => ?_) (fun cdv A outer s H vs Q E hr h => ?_)
  · exact h.len fun M rs M' o ⟨_, _, _, _, _, e, _⟩ => by rw [e]; rfl
  · have hu := hu_of hr
    refine ⟨_, (pss_cons (ps_setLc (i := 4) rfl sc__law_drawn_stock.nd rfl rfl (sw_true rfl rfl rfl (by decide +kernel)) (pi_range1 (by rfl) T.n_range (pa_cons (pv 2) pa_nil)) (blkOk_by (own := [("turn", 5)]) (N := N__law_drawn_stock) (sc := defScope s__law_drawn_stock) (by decide +kernel)) (fun _ _ _ _ _ => (pg_name (i := 5) sc__law_drawn_stock.nd rfl (by first | exact Or.inl rfl | exact Or.inr rfl))) (fun _ _ _ _ _ => pts_nil) (fun _ _ _ _ _ => (pe_call G__law_draw (hr.mono (by first | decide | omega)) rfl T.g__law_draw T.F__law_draw.kp b__law_draw .nil pass0 (pa_cons (pv 0) (pa_cons (pe_op op_add (pv 1) (pe_int)) pa_nil)))))
  (pss_cons (ps_setLc (i := 6) rfl sc__law_drawn_stock.nd rfl rfl (sw_true rfl rfl rfl (by decide +kernel)) (pi_range1 (by rfl) T.n_range (pa_cons (pv 3) pa_nil)) (blkOk_by (own := [("turn", 5)]) (N := N__law_drawn_stock) (sc := defScope s__law_drawn_stock) (by decide +kernel)) (fun _ _ _ _ _ => (pg_name (i := 5) sc__law_drawn_stock.nd rfl (by first | exact Or.inl rfl | exact Or.inr rfl))) (fun _ _ _ _ _ => pts_nil) (fun _ _ _ _ _ => (pe_call G__law_draw (hr.mono (by first | decide | omega)) rfl T.g__law_draw T.F__law_draw.kp b__law_draw .nil pass0 (pa_cons (pv 0) (pa_cons (pe_op op_add (pv 1) (pe_int)) pa_nil)))))
  (pss_cons (ps_if (PW.pt (pw_and (pt_cmpR op_gt (pv 2) (pe_int) (nomark _)) (pw_and (pt_cmpR op_gt (pv 3) (pe_int) (nomark _)) (pw_and1 (pt_cmpR op_eq (pe_call G__law_draw (hr.mono (by first | decide | omega)) rfl T.g__law_draw T.F__law_draw.kp b__law_draw .nil pass0 (pa_cons (pv 0) (pa_cons (pe_int) pa_nil))) (pe_int) (nomark _)))))) (pss_one (ps_asg (pe_ix (ix_listK (K := K) rfl) (pv 4) (pe_call G__law_draw (hr.mono (by first | decide | omega)) rfl T.g__law_draw T.F__law_draw.kp b__law_draw .nil pass0 (pa_cons (pv 0) (pa_cons (pv 2) pa_nil))) (fun _ _ => rfl)) (pg_sub (pv 6) (pe_call G__law_draw (hr.mono (by first | decide | omega)) rfl T.g__law_draw T.F__law_draw.kp b__law_draw .nil pass0 (pa_cons (pv 0) (pa_cons (pv 3) pa_nil))) set_list))) pss_nil)
  (pss_one (ps_ret (pe_tup (pa_cons (pv 4) (pa_cons (pv 6) pa_nil)))))))), ?_⟩
    try dsimp only [cxOf, Cx.nox, Cx.wish, List.map]
    refine h.reading fun F As M rs M' o hΦ hL B S hB hA post => ?_
    obtain ⟨p, t, q, n, rfl, rfl, ht, hq, hn, rfl, rfl⟩ := hΦ
    dsimp only at post
    unfold dsk at post
    refine q_set S (r := rints (dkB p t q)) (M' := [pmc (pAft p (t + 1) q)]) (ev_lcRS (n := (q : Int)) (fun i => [pmc (pAft p (t + 1) i)]) (dAt p (t + 1)) (ea_cons (ev_var (r := rint (q : Int)) rfl) ea_nil) (by omega) rfl fun i hi => ev_drawS (Ms := []) (p := p) (m := t + 1) (i := i) (ea_cons (ev_var rfl) (ea_cons (ev_op (ev_var (r := rint t) rfl) ev_int od_int) ea_nil)) (by omega) (by omega)) ?_
    intro F As σ H S
    try simp only [List.set_cons_zero, List.set_cons_succ] at S
    generalize hp1 : pAft p (t + 1) q = p1 at S post
    refine q_set S (r := .cel 1) (M' := [pmc (pAft p1 (t + 1) n), .lst ((dkB p1 t n).map D.int)]) (ev_lcRSM (n := (n : Int)) (fun i => [pmc (pAft p1 (t + 1) i)]) (dAt p1 (t + 1)) (ea_cons (ev_var (r := rint (n : Int)) rfl) ea_nil) (by omega) rfl fun i hi => ev_drawS (Ms := []) (p := p1) (m := t + 1) (i := i) (ea_cons (ev_var rfl) (ea_cons (ev_op (ev_var (r := rint t) rfl) ev_int od_int) ea_nil)) (by omega) (by omega)) ?_
    intro F As σ H S
    try simp only [List.set_cons_zero, List.set_cons_succ] at S
    have l1 := dkB_len (p := p) (t := t) (q := q)
    have l2 := dkB_len (p := p1) (t := t) (q := n)
    generalize dkB p t q = bs at S post l1
    generalize dkB p1 t n = ps at S post l2
    generalize pAft p1 (t + 1) n = p2 at S post
    have r1 := draw_rng (p := (draw p2 3).2) (m := (q : Int)) (by omega)
    have r2 := draw_rng (p := (draw (draw p2 3).2 q).2) (m := (n : Int)) (by omega)
    have hz2 : ∀ z : Pz × List Int × List Int, (if (draw p2 3).1 = 0 then ((draw (draw (draw p2 3).2 q).2 n).2, bs, ps.set (draw (draw (draw p2 3).2 q).2 n).1.toNat (gI bs (draw (draw p2 3).2 q).1)) else ((draw p2 3).2, bs, ps)) = z → z.2.1 = bs := fun z h => by
      rw [← h]
      split <;> rfl
    generalize hz : (if (draw p2 3).1 = 0 then ((draw (draw (draw p2 3).2 q).2 n).2, bs, ps.set (draw (draw (draw p2 3).2 q).2 n).1.toNat (gI bs (draw (draw p2 3).2 q).1)) else ((draw p2 3).2, bs, ps)) = z at post
    have hz2 := hz2 z hz
    refine q_ifE [pmc z.1, .lst (z.2.2.map D.int)] [some (.cel 0), some (rint t), some (rint (q : Int)), some (rint (n : Int)), some (rints bs), none, some (.cel 1)] S (b := decide ((draw p2 3).1 = 0)) (M1 := [pmc (draw p2 3).2, .lst (ps.map D.int)]) (et_is (et_andG (b := true) (et_is (et_test (ev_op (ev_var (r := rint (q : Int)) rfl) ev_int od_bool)) (decide_eq_true (by omega))) (fun _ => et_andG (b := true) (et_is (et_test (ev_op (ev_var (r := rint (n : Int)) rfl) ev_int od_bool)) (decide_eq_true (by omega))) (fun _ => et_test (ev_op (ev_drawC (p := p2) (m := 3) (Ms := [.lst (ps.map D.int)]) (ea_cons (ev_var rfl) (ea_cons ev_int ea_nil)) (by omega) (by omega)) ev_int od_eqI)) (fun z => by cases z)) (fun z => by cases z)) rfl) ?_ ?_ ?_
    · intro hc De k F As σ H S
      have hc := of_decide_eq_true hc
      rw [if_pos hc] at hz
      subst hz
      refine s_setLI S (ns := ps) (i := (draw (draw (draw p2 3).2 q).2 n).1) (e := gI bs (draw (draw p2 3).2 q).1) (ev_op (ev_var (r := rints bs) rfl) (ev_drawC (p := (draw p2 3).2) (m := (q : Int)) (Ms := [.lst (ps.map D.int)]) (ea_cons (ev_var rfl) (ea_cons (ev_var (r := rint (q : Int)) rfl) ea_nil)) (by omega) (by omega)) (od_ixI (.inl rfl) (by omega) (by omega))) (ev_var (r := .cel 1) rfl) (ev_drawC (p := (draw (draw p2 3).2 q).2) (m := (n : Int)) (Ms := [.lst (ps.map D.int)]) (ea_cons (ev_var rfl) (ea_cons (ev_var (r := rint (n : Int)) rfl) ea_nil)) (by omega) (by omega)) rfl (by omega) (by omega) ?_
      intro F As σ H S
      exact k _ _ _ _ S
    · intro hc De k F As σ H S
      have hc := of_decide_eq_false hc
      rw [if_neg hc] at hz
      subst hz
      refine s_next S ?_
      intro F As σ H S
      exact k _ _ _ _ S
    · intro F As σ H S
      refine s_frz S hB (k := 1) rfl (d := .lst (z.2.2.map D.int)) rfl (by rw [hA]; exact Nat.le_refl _) ?_
      intro F As σ H S
      rw [hz2] at post
      exact s_ret S (r := .dat (twoL bs z.2.2)) (M' := [pmc z.1, .gone]) (ev_tup (rs := [rints bs, rints z.2.2]) (ea_cons (ev_var rfl) (ea_cons (ev_var rfl) ea_nil)) rfl (Nat.le_of_ble_eq_true rfl)) fun v F As σ H S r => post _ _ _ _ _ _ _ S rfl r
end K09
set_option Elab.async false
set_option linter.all false
set_option maxRecDepth 100000
set_option maxHeartbeats 4000000
namespace K09
open PySem L2 DL
/-! ### the steps: one rule an expression, by its reading's head -/
local macro_rules | `(tactic| wtm_at "ev") => `(tactic| first
  | exact ev_var rfl
  | exact ev_int
  | exact ev_non
  | exact ev_bl
  | exact ev_str
  | exact ea_nil
  | with_reducible apply ea_cons
  | ((with_reducible refine' ev_isi ?a ?b ?c); (case' a => repeat' wtm_at "ev"); (case' b => exact rfl); (case' c => exact rfl))
  | with_reducible apply ev_cb
  | with_reducible apply ev_op
  | with_reducible apply ev_un
  | with_reducible apply et_test
  | with_reducible apply et_B
  | with_reducible apply et_not
  | with_reducible apply ev_isN
  | with_reducible apply ev_notN
  | with_reducible apply ev_notV
  | with_reducible apply et_and
  | with_reducible apply et_or
  | with_reducible apply ev_andV
  | with_reducible apply ev_orV
  | with_reducible apply ev_ifI
  | with_reducible apply ev_ifD
  | ((with_reducible refine' ev_dnotin ?a ?b ?c ?d); (case' a => repeat' wtm_at "ev"); (case' b => repeat' wtm_at "ev"); (case' c => exact rfl); (case' d => first | exact .inl rfl | exact .inr ⟨_, rfl, rfl⟩))
  | ((with_reducible refine' ev_din ?a ?b ?c ?d); (case' a => repeat' wtm_at "ev"); (case' b => repeat' wtm_at "ev"); (case' c => exact rfl); (case' d => first | exact .inl rfl | exact .inr ⟨_, rfl, rfl⟩))
  | with_reducible apply ev_lcLAI
  | with_reducible apply ev_lcLII
  | with_reducible apply ev_lcLA
  | with_reducible apply ev_lcLI
  | with_reducible apply ev_lcRAI
  | with_reducible apply ev_lcRI
  | with_reducible apply ev_lcRA
  | with_reducible apply ev_lcR
  | exact et_yes
  | with_reducible intro _
  | exact od_int
  | exact od_bool
  | exact od_eqI
  | exact od_neI
  | exact od_eqS
  | exact od_neS
  | exact ud_neg
  | exact cd_abs
  | exact cd_max2
  | exact cd_min2
  | exact cd_int
  | exact cd_intB
  | exact cd_lenScr
  | exact cd_lenT
  | exact cd_lenI (.inl rfl)
  | exact cd_lenI (.inr ⟨_, rfl, rfl⟩)
  | exact cd_len (.inl rfl)
  | exact cd_len (.inr ⟨_, rfl, rfl⟩)
  | exact cd_lenD (.inl rfl)
  | exact cd_lenD (.inr ⟨_, rfl, rfl⟩)
  | exact cd_sum (.inl rfl)
  | exact cd_sorted (.inl rfl)
  | exact cd_list (.inl rfl)
  | exact cd_listT
  | exact eo_none
  | with_reducible apply eo_some
  | with_reducible apply ev_sliceScr
  | refine' ev_sliceI ?_ ?_ ?_ (.inl rfl)
  | with_reducible apply od_intC
  | with_reducible apply od_ixScr
  | refine' od_ixI (.inl rfl) ?_ ?_
  | refine' od_ixI (.inr ⟨_, rfl, rfl⟩) ?_ ?_
  | exact od_ixT rfl
  | exact od_inI (.inl rfl)
  | exact od_notinI (.inl rfl)
  | refine' od_cat (.inl rfl) (.inl rfl) ?_
  | ((with_reducible refine' ev_tup ?h ?r ?l); (case' h => repeat' wtm_at "ev"); (case' r => exact rfl); (case' l => exact Nat.le_of_ble_eq_true rfl))
  | (refine (show CMul _ _ from .inl ⟨?_, ?_⟩) <;> decide)
  | (refine (show CMul _ _ from .inr ⟨?_, ?_⟩) <;> decide)
  | (refine (show (_ : Prop) from ?_); assumption)
  | (refine (show CDiv _ _ from ⟨?_, ?_⟩) <;> omega)
  | (refine (show CPow _ _ from ⟨?_, ?_, ?_⟩) <;> decide)
  | omega
  | (simp only [Pz.len]; done)
  | (simp only [Pz.len, List.length_map, List.length_append, List.length_range, List.length_set, List.length_reverse]; omega))
/-! a statement's step: its values are reckoned, what is left is the way on -/
local macro_rules | `(tactic| wtm_at "st") => `(tactic| first
  | (refine' q_set (by assumption) ?h ?k; (case' h => repeat' wtm_at "ev"); (case' k => (intro _ _ _ _ _; try dsimp only)))
  | (refine' s_set (by assumption) ?h ?k; (case' h => repeat' wtm_at "ev"); (case' k => (intro _ _ _ _ _; try dsimp only)))
  | (refine' q_augS (by assumption) ?h1 ?h2 ?h3 ?r1 ?r2 ?s1 ?s2 ?k; (case' h1 => repeat' wtm_at "ev"); (case' h2 => repeat' wtm_at "ev"); (case' h3 => repeat' wtm_at "ev"); (case' r1 => exact rfl); (case' r2 => exact rfl); (case' s1 => try wtm_at "ev"); (case' s2 => try wtm_at "ev"); (case' k => (intro _ _ _ _ _; try dsimp only)))
  | (refine' s_augS (by assumption) ?h1 ?h2 ?h3 ?r1 ?r2 ?s1 ?s2 ?k; (case' h1 => repeat' wtm_at "ev"); (case' h2 => repeat' wtm_at "ev"); (case' h3 => repeat' wtm_at "ev"); (case' r1 => exact rfl); (case' r2 => exact rfl); (case' s1 => try wtm_at "ev"); (case' s2 => try wtm_at "ev"); (case' k => (intro _ _ _ _ _; try dsimp only)))
  | (refine' q_setLI (by assumption) ?h ?h1 ?h2 ?r1 ?s1 ?s2 ?k; (case' h => repeat' wtm_at "ev"); (case' h1 => repeat' wtm_at "ev"); (case' h2 => repeat' wtm_at "ev"); (case' r1 => exact rfl); (case' s1 => try wtm_at "ev"); (case' s2 => try wtm_at "ev"); (case' k => (intro _ _ _ _ _; try dsimp only)))
  | (refine' q_setL (by assumption) ?h ?h1 ?h2 ?r1 ?s1 ?s2 ?k; (case' h => repeat' wtm_at "ev"); (case' h1 => repeat' wtm_at "ev"); (case' h2 => repeat' wtm_at "ev"); (case' r1 => exact rfl); (case' s1 => try wtm_at "ev"); (case' s2 => try wtm_at "ev"); (case' k => (intro _ _ _ _ _; try dsimp only)))
  | (refine' s_setLI (by assumption) ?h ?h1 ?h2 ?r1 ?s1 ?s2 ?k; (case' h => repeat' wtm_at "ev"); (case' h1 => repeat' wtm_at "ev"); (case' h2 => repeat' wtm_at "ev"); (case' r1 => exact rfl); (case' s1 => try wtm_at "ev"); (case' s2 => try wtm_at "ev"); (case' k => (intro _ _ _ _ _; try dsimp only)))
  | (refine' s_setL (by assumption) ?h ?h1 ?h2 ?r1 ?s1 ?s2 ?k; (case' h => repeat' wtm_at "ev"); (case' h1 => repeat' wtm_at "ev"); (case' h2 => repeat' wtm_at "ev"); (case' r1 => exact rfl); (case' s1 => try wtm_at "ev"); (case' s2 => try wtm_at "ev"); (case' k => (intro _ _ _ _ _; try dsimp only)))
  | (refine' q_appI (by assumption) ?h1 ?h ?r1 ?r2 ?s ?k; (case' h1 => repeat' wtm_at "ev"); (case' h => repeat' wtm_at "ev"); (case' r1 => exact rfl); (case' r2 => exact rfl); (case' s => try wtm_at "ev"); (case' k => (intro _ _ _ _ _; try dsimp only)))
  | (refine' q_app (by assumption) ?h1 ?h ?r1 ?r2 ?s ?k; (case' h1 => repeat' wtm_at "ev"); (case' h => repeat' wtm_at "ev"); (case' r1 => exact rfl); (case' r2 => exact rfl); (case' s => try wtm_at "ev"); (case' k => (intro _ _ _ _ _; try dsimp only)))
  | (refine' s_appI (by assumption) ?h1 ?h ?r1 ?r2 ?s ?k; (case' h1 => repeat' wtm_at "ev"); (case' h => repeat' wtm_at "ev"); (case' r1 => exact rfl); (case' r2 => exact rfl); (case' s => try wtm_at "ev"); (case' k => (intro _ _ _ _ _; try dsimp only)))
  | (refine' s_app (by assumption) ?h1 ?h ?r1 ?r2 ?s ?k; (case' h1 => repeat' wtm_at "ev"); (case' h => repeat' wtm_at "ev"); (case' r1 => exact rfl); (case' r2 => exact rfl); (case' s => try wtm_at "ev"); (case' k => (intro _ _ _ _ _; try dsimp only)))
  | (refine' q_dput (by assumption) ?h ?h1 ?h2 ?r1 ?r2 ?s ?k; (case' h => repeat' wtm_at "ev"); (case' h1 => repeat' wtm_at "ev"); (case' h2 => repeat' wtm_at "ev"); (case' r1 => exact rfl); (case' r2 => exact rfl); (case' s => try wtm_at "ev"); (case' k => (intro _ _ _ _ _; try dsimp only)))
  | (refine' s_dput (by assumption) ?h ?h1 ?h2 ?r1 ?r2 ?s ?k; (case' h => repeat' wtm_at "ev"); (case' h1 => repeat' wtm_at "ev"); (case' h2 => repeat' wtm_at "ev"); (case' r1 => exact rfl); (case' r2 => exact rfl); (case' s => try wtm_at "ev"); (case' k => (intro _ _ _ _ _; try dsimp only)))
  | (refine' q_tup2 (by assumption) ?h ?k; (case' h => repeat' wtm_at "ev"); (case' k => (intro _ _ _ _ _; try dsimp only)))
  | (refine' q_drop (by assumption) ?h ?k; (case' h => repeat' wtm_at "ev"); (case' k => (intro _ _ _ _ _; try dsimp only)))
  | (refine' q_if (by assumption) ?h ?k1 ?k2; (case' h => repeat' wtm_at "ev"))
  | (refine' s_if (by assumption) ?h ?k1 ?k2; (case' h => repeat' wtm_at "ev"))
  | (refine' s_ret (by assumption) ?h ?k; (case' h => repeat' wtm_at "ev"); (case' k => (intro _ _ _ _ _ _ _; try dsimp only)))
  | (refine' q_ret (by assumption) ?h ?k; (case' h => repeat' wtm_at "ev"); (case' k => (intro _ _ _ _ _ _ _; try dsimp only)))
  | ((with_reducible refine' s_next (by assumption) ?k); (case' k => (intro _ _ _ _ _; try dsimp only)))
  | (with_reducible refine q_next ?_))

/-! ### kinds -/
def kSz (kd : List Int) (m : Nat) (c : Int) : List Int := ((List.range m).filter fun (k : Nat) => decide (gI kd (k : Int) = c)).map fun (k : Nat) => (k : Int)
theorem kSz_sz {kd : List Int} {t : Int} {c : Int} : Sz t (kSz kd (t + 1).toNat c) := fun z hz => by
  obtain ⟨k, hk, rfl⟩ := List.mem_map.mp hz
  have := List.mem_range.mp (List.mem_filter.mp hk).1
  omega
theorem kSz_ne {kd : List Int} {m : Nat} {c : Int} (hl : kd.length = m) (h : c ∈ kd) : 0 < (kSz kd m c).length := by
  obtain ⟨k, hk, e⟩ := List.mem_iff_getElem.mp h
  have : ((k : Nat) : Int) ∈ kSz kd m c := List.mem_map.mpr ⟨k, List.mem_filter.mpr ⟨List.mem_range.mpr (by omega), decide_eq_true (by
    show kd.getD k 0 = c
    rw [List.getD_eq_getElem?_getD, List.getElem?_eq_getElem hk]
    exact e)⟩, rfl⟩
  exact List.length_pos_of_mem this
theorem kSz_len {kd : List Int} {m : Nat} {c : Int} : (kSz kd m c).length ≤ m := by
  unfold kSz
  rw [List.length_map]
  exact Nat.le_trans (List.length_filter_le _ _) (by rw [List.length_range]; exact Nat.le_refl _)
theorem zo_no1 : ∀ {xs : List Int}, (∀ z ∈ xs, 0 ≤ z ∧ z < 2) → (1 : Int) ∉ xs → xs.sum = 0
  | [], _, _ => rfl
  | x :: xs, h, n => by
    have a := h x (List.mem_cons_self ..)
    have : x ≠ 1 := fun e => n (e ▸ List.mem_cons_self ..)
    rw [List.sum_cons, zo_no1 (fun z hz => h z (List.mem_cons_of_mem _ hz)) (fun z => n (List.mem_cons_of_mem _ z))]
    omega
theorem zo_no0 : ∀ {xs : List Int}, (∀ z ∈ xs, 0 ≤ z ∧ z < 2) → (0 : Int) ∉ xs → xs.sum = xs.length
  | [], _, _ => rfl
  | x :: xs, h, n => by
    have a := h x (List.mem_cons_self ..)
    have : x ≠ 0 := fun e => n (e ▸ List.mem_cons_self ..)
    rw [List.sum_cons, zo_no0 (fun z hz => h z (List.mem_cons_of_mem _ hz)) (fun z => n (List.mem_cons_of_mem _ z)), List.length_cons]
    omega
theorem zo_rng : ∀ {xs : List Int}, (∀ z ∈ xs, 0 ≤ z ∧ z < 2) → 0 ≤ xs.sum ∧ xs.sum ≤ xs.length
  | [], _ => ⟨Int.le_refl _, Int.le_refl _⟩
  | x :: xs, h => by
    have a := h x (List.mem_cons_self ..)
    have := zo_rng fun z hz => h z (List.mem_cons_of_mem _ hz)
    rw [List.sum_cons, List.length_cons]
    omega
theorem zo_0 : ∀ {xs : List Int}, (∀ z ∈ xs, 0 ≤ z ∧ z < 2) → xs.sum = 0 → ∀ z ∈ xs, z = 0
  | [], _, _, z, hz => by cases hz
  | x :: xs, h, e, z, hz => by
    have a := h x (List.mem_cons_self ..)
    have h2 := fun z hz => h z (List.mem_cons_of_mem x hz)
    have r := zo_rng h2
    rw [List.sum_cons] at e
    rcases List.mem_cons.mp hz with rfl | hz
    · omega
    · exact zo_0 h2 (by omega) z hz
theorem zo_1 : ∀ {xs : List Int}, (∀ z ∈ xs, 0 ≤ z ∧ z < 2) → xs.sum = xs.length → ∀ z ∈ xs, z = 1
  | [], _, _, z, hz => by cases hz
  | x :: xs, h, e, z, hz => by
    have a := h x (List.mem_cons_self ..)
    have h2 := fun z hz => h z (List.mem_cons_of_mem x hz)
    have r := zo_rng h2
    rw [List.sum_cons, List.length_cons] at e
    rcases List.mem_cons.mp hz with rfl | hz
    · omega
    · exact zo_1 h2 (by omega) z hz
theorem set_both {xs : List Int} {c d : Int} {a : Nat} (h : ∀ z ∈ xs, z = c) (hl : 2 ≤ xs.length) (ha : a < xs.length) : c ∈ xs.set a d ∧ d ∈ xs.set a d := by
  refine ⟨?_, List.mem_set ha d⟩
  obtain ⟨b, hb, hn⟩ : ∃ b, b < xs.length ∧ a ≠ b := by
    by_cases e : a = 0
    · exact ⟨1, by omega, by omega⟩
    · exact ⟨0, by omega, by omega⟩
  have := List.getElem_mem (l := xs.set a d) (n := b) (by rw [List.length_set]; exact hb)
  rw [List.getElem_set_ne hn] at this
  rwa [h _ (List.getElem_mem hb)] at this
/-- the kinds of the sizes, both there -/
def kdS (p : Pz) (t : Int) : Pz × List Int :=
  if ((List.range (t + 1).toNat).map (dAt p 2)).sum = 0 ∨ ((List.range (t + 1).toNat).map (dAt p 2)).sum = t + 1 then
    ((draw (pAft p 2 (t + 1).toNat) (t + 1)).2, ((List.range (t + 1).toNat).map (dAt p 2)).set (draw (pAft p 2 (t + 1).toNat) (t + 1)).1.toNat (1 - gI ((List.range (t + 1).toNat).map (dAt p 2)) (draw (pAft p 2 (t + 1).toNat) (t + 1)).1))
  else (pAft p 2 (t + 1).toNat, (List.range (t + 1).toNat).map (dAt p 2))
theorem kdS_ok {p : Pz} {t : Int} (ht : 1 ≤ t) : (kdS p t).2.length = (t + 1).toNat ∧ (0 : Int) ∈ (kdS p t).2 ∧ (1 : Int) ∈ (kdS p t).2 := by
  have l : ((List.range (t + 1).toNat).map (dAt p 2)).length = (t + 1).toNat := by rw [List.length_map, List.length_range]
  have h : ∀ z ∈ (List.range (t + 1).toNat).map (dAt p 2), 0 ≤ z ∧ z < 2 := fun z hz => by
    obtain ⟨i, _, rfl⟩ := List.mem_map.mp hz
    exact dAt_rng (by omega) i
  have r := draw_rng (p := pAft p 2 (t + 1).toNat) (m := t + 1) (by omega)
  unfold kdS
  generalize (List.range (t + 1).toNat).map (dAt p 2) = xs at l h
  split
  · rename_i c
    refine ⟨by show (List.set _ _ _).length = _; rw [List.length_set]; exact l, ?_⟩
    have hm := gI_mem (ns := xs) r.1 (by omega)
    rcases c with c | c
    · have z := zo_0 h c
      have e := z _ hm
      rw [e]
      obtain ⟨a, b⟩ := set_both (d := 1 - 0) (a := (draw (pAft p 2 (t + 1).toNat) (t + 1)).1.toNat) z (by omega) (by omega)
      exact ⟨a, b⟩
    · have z := zo_1 h (by omega)
      have e := z _ hm
      rw [e]
      obtain ⟨a, b⟩ := set_both (d := 1 - 1) (a := (draw (pAft p 2 (t + 1).toNat) (t + 1)).1.toNat) z (by omega) (by omega)
      exact ⟨b, a⟩
  · rename_i c
    refine ⟨l, ?_, ?_⟩
    · by_cases m : (0 : Int) ∈ xs
      · exact m
      · have := zo_no0 h m
        exact absurd (.inr (by omega)) c
    · by_cases m : (1 : Int) ∈ xs
      · exact m
      · exact absurd (.inl (zo_no1 h m)) c
def pkB (Bs : List Int) (p : Pz) (q : Nat) : List Int := (List.range q).map fun i => gI Bs (dAt p Bs.length i)
theorem pkB_len {Bs : List Int} {p : Pz} {q : Nat} : (pkB Bs p q).length = q := by unfold pkB; rw [List.length_map, List.length_range]
theorem pkB_sz {Bs : List Int} {p : Pz} {q : Nat} {t : Int} (h : Sz t Bs) (h0 : 0 < Bs.length) : Sz t (pkB Bs p q) := fun z hz => by
  obtain ⟨i, _, rfl⟩ := List.mem_map.mp hz
  have := dAt_rng (p := p) (m := (Bs.length : Int)) (by omega) i
  exact h _ (gI_mem this.1 this.2)
/-- the drawn pieces -/
def pcs (p : Pz) (t : Int) : Pz × List Int × List Int :=
  if (draw (draw (draw p 5).2 5).2 3).1 = 0 then dsk (draw (draw (draw p 5).2 5).2 3).2 t (1 + (draw p 5).1).toNat (1 + (draw (draw p 5).2 5).1).toNat
  else (pAft (pAft (kdS (draw (draw (draw p 5).2 5).2 3).2 t).1 (kSz (kdS (draw (draw (draw p 5).2 5).2 3).2 t).2 (t + 1).toNat 0).length (1 + (draw p 5).1).toNat) (kSz (kdS (draw (draw (draw p 5).2 5).2 3).2 t).2 (t + 1).toNat 1).length (1 + (draw (draw p 5).2 5).1).toNat,
    pkB (kSz (kdS (draw (draw (draw p 5).2 5).2 3).2 t).2 (t + 1).toNat 0) (kdS (draw (draw (draw p 5).2 5).2 3).2 t).1 (1 + (draw p 5).1).toNat,
    pkB (kSz (kdS (draw (draw (draw p 5).2 5).2 3).2 t).2 (t + 1).toNat 1) (pAft (kdS (draw (draw (draw p 5).2 5).2 3).2 t).1 (kSz (kdS (draw (draw (draw p 5).2 5).2 3).2 t).2 (t + 1).toNat 0).length (1 + (draw p 5).1).toNat) (1 + (draw (draw p 5).2 5).1).toNat)
theorem pcs_ok {p : Pz} {t : Int} (ht : 1 ≤ t) : (pcs p t).2.1.length ≤ 5 ∧ (pcs p t).2.2.length ≤ 5 ∧ Sz t (pcs p t).2.1 ∧ Sz t (pcs p t).2.2 := by
  have r1 := draw_rng (p := p) (m := 5) (by omega)
  have r2 := draw_rng (p := (draw p 5).2) (m := 5) (by omega)
  unfold pcs
  split
  · obtain ⟨a, b, c, d⟩ := dsk_ok (p := (draw (draw (draw p 5).2 5).2 3).2) (t := t) (q := (1 + (draw p 5).1).toNat) (n := (1 + (draw (draw p 5).2 5).1).toNat) (by omega) (by omega)
    exact ⟨by omega, by omega, c, d⟩
  · obtain ⟨a, b, c⟩ := kdS_ok (p := (draw (draw (draw p 5).2 5).2 3).2) ht
    exact ⟨by show (pkB _ _ _).length ≤ _; rw [pkB_len]; omega, by show (pkB _ _ _).length ≤ _; rw [pkB_len]; omega, pkB_sz kSz_sz (kSz_ne a b), pkB_sz kSz_sz (kSz_ne a c)⟩
def ph_pcs : List MC → List Rv → List MC → Out → Prop := fun M rs M' o => ∃ p t, M = [pmc p] ∧ rs = [.cel 0, rint t] ∧ (1 ≤ t ∧ t ≤ 60) ∧ M' = [pmc (pcs p t).1] ∧ o = .ret (twoL (pcs p t).2.1 (pcs p t).2.2)
abbrev sp__law_k09_pieces (K : PySem.W.Frag) : Sp := FSp K ph_pcs
theorem ok__law_k09_pieces {P : Program} {w : World} {K : PySem.W.Frag} {mg : Str → Option Value} {base : Heap} {ad : Ad} {fd : Fd} (T : Txt K mg w ad fd) : FnOk P w K mg base CX0 3 ad.a__law_k09_pieces fd.d__law_k09_pieces ["purse", "top"] (sp__law_k09_pieces K) := by
  have G__law_draw := ok__law_draw (P := P) (base := base) T
  have b__law_draw := T.F__law_draw.binds (ps := ["purse", "many"]) fun _ _ _ _ _ _ us hl => match us, hl with | [_, _], _ => rfl
  have G__law_drawn_stock := ok__law_drawn_stock (P := P) (base := base) T
  have b__law_drawn_stock := T.F__law_drawn_stock.binds (ps := ["purse", "top", "q", "p"]) fun _ _ _ _ _ _ us hl => match us, hl with | [_, _, _, _], _ => rfl
  refine L2.Fun.ok (k := 2) T.F__law_k09_pieces sc__law_k09_pieces (fun vs H Q E h => ?_) (fun cdv A outer s H vs Q E hr h => ?_)
  · exact h.len fun M rs M' o ⟨_, _, _, e, _⟩ => by rw [e]; rfl
  · have hu := hu_of hr
    refine ⟨_, (pss_cons (ps_set (i := 2) sc__law_k09_pieces.nd rfl (by first | exact Or.inl rfl | exact Or.inr rfl) (pe_op op_add (pe_int) (pe_call G__law_draw (hr.mono (by first | decide | omega)) rfl T.g__law_draw T.F__law_draw.kp b__law_draw .nil pass0 (pa_cons (pv 0) (pa_cons (pe_int) pa_nil)))))
  (pss_cons (ps_set (i := 3) sc__law_k09_pieces.nd rfl (by first | exact Or.inl rfl | exact Or.inr rfl) (pe_op op_add (pe_int) (pe_call G__law_draw (hr.mono (by first | decide | omega)) rfl T.g__law_draw T.F__law_draw.kp b__law_draw .nil pass0 (pa_cons (pv 0) (pa_cons (pe_int) pa_nil)))))
  (pss_cons (ps_if (pt_cmpR op_eq (pe_call G__law_draw (hr.mono (by first | decide | omega)) rfl T.g__law_draw T.F__law_draw.kp b__law_draw .nil pass0 (pa_cons (pv 0) (pa_cons (pe_int) pa_nil))) (pe_int) (nomark _)) (pss_one (ps_ret (pe_call G__law_drawn_stock (hr.mono (by first | decide | omega)) rfl T.g__law_drawn_stock T.F__law_drawn_stock.kp b__law_drawn_stock .nil pass0 (pa_cons (pv 0) (pa_cons (pv 1) (pa_cons (pv 2) (pa_cons (pv 3) pa_nil))))))) pss_nil)
  (pss_cons (ps_set (i := 4) sc__law_k09_pieces.nd rfl (by first | exact Or.inl rfl | exact Or.inr rfl) (pe_lc rfl sc__law_k09_pieces.nd (pi_range1 (by rfl) T.n_range (pa_cons (pe_op op_add (pv 1) (pe_int)) pa_nil)) (blkOk_by (own := [("size", 5)]) (N := N__law_k09_pieces) (sc := defScope s__law_k09_pieces) (by decide +kernel)) (fun _ _ _ _ _ => (pg_name (i := 5) sc__law_k09_pieces.nd rfl (by first | exact Or.inl rfl | exact Or.inr rfl))) (fun _ _ _ _ _ => pts_nil) (fun _ _ _ _ _ => (pe_call G__law_draw (hr.mono (by first | decide | omega)) rfl T.g__law_draw T.F__law_draw.kp b__law_draw .nil pass0 (pa_cons (pv 0) (pa_cons (pe_int) pa_nil))))))
  (pss_cons (ps_if (PW.pt (pw_or (pt_cmpR op_eq (pe_callB (cr_sumK (K := K) rfl rfl) (by rfl) T.n_sum (by decide +kernel) (pa_cons (pv 4) pa_nil)) (pe_int) (nomark _)) (pw_or1 (pt_cmpR op_eq (pe_callB (cr_sumK (K := K) rfl rfl) (by rfl) T.n_sum (by decide +kernel) (pa_cons (pv 4) pa_nil)) (pe_op op_add (pv 1) (pe_int)) (nomark _))))) (pss_cons (ps_set (i := 6) sc__law_k09_pieces.nd rfl (by first | exact Or.inl rfl | exact Or.inr rfl) (pe_call G__law_draw (hr.mono (by first | decide | omega)) rfl T.g__law_draw T.F__law_draw.kp b__law_draw .nil pass0 (pa_cons (pv 0) (pa_cons (pe_op op_add (pv 1) (pe_int)) pa_nil))))
  (pss_one (ps_asg (pe_op op_sub (pe_int) (pe_ix (ix_listK (K := K) rfl) (pv 4) (pv 6) (fun _ _ => rfl))) (pg_sub (pv 4) (pv 6) set_list)))) pss_nil)
  (pss_cons (ps_set (i := 7) sc__law_k09_pieces.nd rfl (by first | exact Or.inl rfl | exact Or.inr rfl) (pe_lc rfl sc__law_k09_pieces.nd (pi_range1 (by rfl) T.n_range (pa_cons (pe_op op_add (pv 1) (pe_int)) pa_nil)) (blkOk_by (own := [("size", 5)]) (N := N__law_k09_pieces) (sc := defScope s__law_k09_pieces) (by decide +kernel)) (fun _ _ _ _ _ => (pg_name (i := 5) sc__law_k09_pieces.nd rfl (by first | exact Or.inl rfl | exact Or.inr rfl))) (fun _ _ _ _ _ => (pts_one (pt_cmpR op_eq (pe_ix (ix_listK (K := K) rfl) (pv 4) (pv 5) (fun _ _ => rfl)) (pe_int) (nomark _)))) (fun _ _ _ _ _ => (pv 5))))
  (pss_cons (ps_set (i := 8) sc__law_k09_pieces.nd rfl (by first | exact Or.inl rfl | exact Or.inr rfl) (pe_lc rfl sc__law_k09_pieces.nd (pi_range1 (by rfl) T.n_range (pa_cons (pe_op op_add (pv 1) (pe_int)) pa_nil)) (blkOk_by (own := [("size", 5)]) (N := N__law_k09_pieces) (sc := defScope s__law_k09_pieces) (by decide +kernel)) (fun _ _ _ _ _ => (pg_name (i := 5) sc__law_k09_pieces.nd rfl (by first | exact Or.inl rfl | exact Or.inr rfl))) (fun _ _ _ _ _ => (pts_one (pt_cmpR op_eq (pe_ix (ix_listK (K := K) rfl) (pv 4) (pv 5) (fun _ _ => rfl)) (pe_int) (nomark _)))) (fun _ _ _ _ _ => (pv 5))))
  (pss_cons (ps_setLc (i := 9) rfl sc__law_k09_pieces.nd rfl rfl (sw_true rfl rfl rfl (by decide +kernel)) (pi_range1 (by rfl) T.n_range (pa_cons (pv 2) pa_nil)) (blkOk_by (own := [("turn", 10)]) (N := N__law_k09_pieces) (sc := defScope s__law_k09_pieces) (by decide +kernel)) (fun _ _ _ _ _ => (pg_name (i := 10) sc__law_k09_pieces.nd rfl (by first | exact Or.inl rfl | exact Or.inr rfl))) (fun _ _ _ _ _ => pts_nil) (fun _ _ _ _ _ => (pe_ix (ix_listK (K := K) rfl) (pv 7) (pe_call G__law_draw (hr.mono (by first | decide | omega)) rfl T.g__law_draw T.F__law_draw.kp b__law_draw .nil pass0 (pa_cons (pv 0) (pa_cons (pe_callB (call_lenK (K := K) rfl) (by rfl) T.n_len (by decide +kernel) (pa_cons (pv 7) pa_nil)) pa_nil))) (fun _ _ => rfl))))
  (pss_one (ps_ret (pe_tup (pa_cons (pv 9) (pa_cons (pe_lc rfl sc__law_k09_pieces.nd (pi_range1 (by rfl) T.n_range (pa_cons (pv 3) pa_nil)) (blkOk_by (own := [("turn", 10)]) (N := N__law_k09_pieces) (sc := defScope s__law_k09_pieces) (by decide +kernel)) (fun _ _ _ _ _ => (pg_name (i := 10) sc__law_k09_pieces.nd rfl (by first | exact Or.inl rfl | exact Or.inr rfl))) (fun _ _ _ _ _ => pts_nil) (fun _ _ _ _ _ => (pe_ix (ix_listK (K := K) rfl) (pv 8) (pe_call G__law_draw (hr.mono (by first | decide | omega)) rfl T.g__law_draw T.F__law_draw.kp b__law_draw .nil pass0 (pa_cons (pv 0) (pa_cons (pe_callB (call_lenK (K := K) rfl) (by rfl) T.n_len (by decide +kernel) (pa_cons (pv 8) pa_nil)) pa_nil))) (fun _ _ => rfl)))) pa_nil))))))))))))), ?_⟩
    try dsimp only [cxOf, Cx.nox, Cx.wish, List.map]
    refine h.reading fun F As M rs M' o hΦ hL B S hB hA post => ?_
    obtain ⟨p, t, rfl, rfl, ht, rfl, rfl⟩ := hΦ
    dsimp only at post
    unfold pcs at post
    have r1 := draw_rng (p := p) (m := 5) (by omega)
    have r2 := draw_rng (p := (draw p 5).2) (m := 5) (by omega)
    refine q_set S (r := rint (1 + (draw p 5).1)) (M' := [pmc (draw p 5).2]) (ev_op ev_int (ev_drawC (p := p) (m := 5) (Ms := []) (ea_cons (ev_var rfl) (ea_cons ev_int ea_nil)) (by omega) (by omega)) od_int) ?_
    intro F As σ H S
    try simp only [List.set_cons_zero, List.set_cons_succ] at S
    refine q_set S (r := rint (1 + (draw (draw p 5).2 5).1)) (M' := [pmc (draw (draw p 5).2 5).2]) (ev_op ev_int (ev_drawC (p := (draw p 5).2) (m := 5) (Ms := []) (ea_cons (ev_var rfl) (ea_cons ev_int ea_nil)) (by omega) (by omega)) od_int) ?_
    intro F As σ H S
    try simp only [List.set_cons_zero, List.set_cons_succ] at S
    obtain ⟨q, hq⟩ : ∃ q : Nat, 1 + (draw p 5).1 = (q : Int) := ⟨(1 + (draw p 5).1).toNat, by omega⟩
    obtain ⟨n, hn⟩ : ∃ n : Nat, 1 + (draw (draw p 5).2 5).1 = (n : Int) := ⟨(1 + (draw (draw p 5).2 5).1).toNat, by omega⟩
    rw [hq, hn, Int.toNat_natCast, Int.toNat_natCast] at post
    rw [hq, hn] at S
    have q1 : 1 ≤ q ∧ q ≤ 5 := by omega
    have n1 : 1 ≤ n ∧ n ≤ 5 := by omega
    clear hq hn r1 r2
    generalize (draw (draw p 5).2 5).2 = p1 at S post
    refine q_if S (b := decide ((draw p1 3).1 = 0)) (M' := [pmc (draw p1 3).2]) (et_test (ev_op (ev_drawC (p := p1) (m := 3) (Ms := []) (ea_cons (ev_var rfl) (ea_cons ev_int ea_nil)) (by omega) (by omega)) ev_int od_eqI)) ?_ ?_
    · intro hc F As σ H S
      rw [if_pos (of_decide_eq_true hc)] at post
      generalize (draw p1 3).2 = p2 at S post
      refine s_ret S (ev_call1 (k := 0) (d := twoL (dsk p2 t q n).2.1 (dsk p2 t q n).2.2) (ea_cons (ev_var (r := .cel 0) rfl) (ea_cons (ev_var (r := rint t) rfl) (ea_cons (ev_var (r := rint (q : Int)) rfl) (ea_cons (ev_var (r := rint (n : Int)) rfl) ea_nil)))) (by intro z; cases z) rfl (by intro z; cases z) ⟨p2, t, q, n, rfl, rfl, ⟨by omega, by omega⟩, ⟨by omega, by omega⟩, ⟨by omega, by omega⟩, rfl, rfl⟩) ?_
      intro v F As σ H S r
      exact post _ _ _ _ _ _ _ S rfl r
    intro hc F As σ H S
    rw [if_neg (of_decide_eq_false hc)] at post
    generalize (draw p1 3).2 = p2 at S post
    refine s_next S ?_
    intro F As σ H S
    obtain ⟨k1, k2, k3⟩ := kdS_ok (p := p2) ht.1
    generalize hz : kdS p2 t = z at post k1 k2 k3
    unfold kdS at hz
    have lK : ((List.range (t + 1).toNat).map (dAt p2 2)).length = (t + 1).toNat := by rw [List.length_map, List.length_range]
    refine q_set S (r := .cel 1) (M' := [pmc (pAft p2 2 (t + 1).toNat), .lst (((List.range (t + 1).toNat).map (dAt p2 2)).map D.int)]) (ev_lcRSM (n := t + 1) (fun i => [pmc (pAft p2 2 i)]) (dAt p2 2) (ea_cons (ev_op (ev_var (r := rint t) rfl) ev_int od_int) ea_nil) (by omega) rfl fun i hi => ev_drawS (Ms := []) (p := p2) (m := 2) (i := i) (ea_cons (ev_var rfl) (ea_cons ev_int ea_nil)) (by omega) (by omega)) ?_
    intro F As σ H S
    try simp only [List.set_cons_zero, List.set_cons_succ] at S
    generalize (List.range (t + 1).toNat).map (dAt p2 2) = K0 at S hz lK
    generalize pAft p2 2 (t + 1).toNat = p3 at S hz
    have r3 := draw_rng (p := p3) (m := t + 1) (by omega)
    refine q_ifE [pmc z.1, .lst (z.2.map D.int)] [some (.cel 0), some (rint t), some (rint (q : Int)), some (rint (n : Int)), some (.cel 1), none, none, none, none, none, none] S (b := decide (K0.sum = 0) || decide (K0.sum = t + 1)) (M1 := [pmc p3, .lst (K0.map D.int)]) (et_or (et_test (ev_op (ev_cb (ea_cons (ev_var (r := .cel 1) rfl) ea_nil) (cd_sum (ns := K0) (.inr ⟨_, rfl, rfl⟩))) ev_int od_eqI)) (fun _ => et_test (ev_op (ev_cb (ea_cons (ev_var (r := .cel 1) rfl) ea_nil) (cd_sum (ns := K0) (.inr ⟨_, rfl, rfl⟩))) (ev_op (ev_var (r := rint t) rfl) ev_int od_int) od_eqI))) ?_ ?_ ?_
    · intro hc De k F As σ H S
      rw [Bool.or_eq_true, decide_eq_true_eq, decide_eq_true_eq] at hc
      rw [if_pos hc] at hz
      subst hz
      refine q_set S (ev_drawC (p := p3) (m := t + 1) (Ms := [.lst (K0.map D.int)]) (ea_cons (ev_var rfl) (ea_cons (ev_op (ev_var (r := rint t) rfl) ev_int od_int) ea_nil)) (by omega) (by omega)) ?_
      intro F As σ H S
      try simp only [List.set_cons_zero, List.set_cons_succ] at S
      refine s_setLI S (ns := K0) (i := (draw p3 (t + 1)).1) (e := 1 - gI K0 (draw p3 (t + 1)).1) (ev_op ev_int (ev_op (ev_var (r := .cel 1) rfl) (ev_var (r := rint (draw p3 (t + 1)).1) rfl) (od_ixI (ns := K0) (.inr ⟨1, rfl, rfl⟩) r3.1 (by omega))) od_int) (ev_var (r := .cel 1) rfl) (ev_var (r := rint (draw p3 (t + 1)).1) rfl) rfl r3.1 (by omega) ?_
      intro F As σ H S
      exact k _ _ _ _ (S.weak ⟨rfl, rfl, rfl, rfl, rfl, trivial⟩)
    · intro hc De k F As σ H S
      rw [if_neg (fun h => by
        rcases h with h | h
        · rw [decide_eq_true h] at hc; cases hc
        · rw [decide_eq_true h, Bool.or_true] at hc; cases hc)] at hz
      subst hz
      refine s_next S ?_
      intro F As σ H S
      exact k _ _ _ _ (S.weak ⟨rfl, rfl, rfl, rfl, rfl, trivial⟩)
    intro F As σ H S
    clear hz
    obtain ⟨p4, kd⟩ := z
    dsimp only at S post k1 k2 k3
    have szs : ∀ (c : Int) {M : List MC} {E : List (Option Rv)} {j : Nat}, E[1]? = some (some (rint t)) → (∀ x, (E.set j (some x))[4]? = some (some (.cel 1))) → (∀ x, (E.set j (some x))[j]? = some (some x)) → M[1]? = some (.lst (kd.map D.int)) → EvD K (tLc (iRng1 (tCons (tOp (rI0 fun i j => .int (i + j)) (tVar 1) (tC (.int 1))) tNil)) (gName j) (tTest (tOp rEq (tOp (rIxL K) (tVar 4) (tVar j)) (tC (.int c)))) (tVar j) [j]) M E M (rints (kSz kd (t + 1).toNat c)) := fun c {M E j} z1 z4 zj zm => ev_lcRI (n := t + 1) (fun (k : Nat) => decide (gI kd (k : Int) = c)) (fun (k : Nat) => (k : Int)) (ea_cons (ev_op (ev_var z1) ev_int od_int) ea_nil) (by omega) (fun i hi => et_test (ev_op (ev_op (ev_var (z4 _)) (ev_var (zj _)) (od_ixI (ns := kd) (.inr ⟨1, rfl, zm⟩) (by omega) (by omega))) ev_int od_eqI)) (fun i hi _ => ev_var (zj _))
    refine q_set S (szs 0 rfl (fun _ => rfl) (fun _ => rfl) rfl) ?_
    intro F As σ H S
    try simp only [List.set_cons_zero, List.set_cons_succ] at S
    refine q_set S (szs 1 rfl (fun _ => rfl) (fun _ => rfl) rfl) ?_
    intro F As σ H S
    try simp only [List.set_cons_zero, List.set_cons_succ] at S
    have n1 := kSz_ne k1 k2
    have n2 := kSz_ne k1 k3
    have l1 := kSz_len (kd := kd) (m := (t + 1).toNat) (c := 0)
    have l2 := kSz_len (kd := kd) (m := (t + 1).toNat) (c := 1)
    generalize kSz kd (t + 1).toNat 0 = Bs at S post n1 l1
    generalize kSz kd (t + 1).toNat 1 = Ps at S post n2 l2
    refine q_set S (r := rints (pkB Bs p4 q)) (M' := [pmc (pAft p4 Bs.length q), .lst (kd.map D.int)]) (ev_lcRS (n := (q : Int)) (fun i => [pmc (pAft p4 Bs.length i), .lst (kd.map D.int)]) (fun i => gI Bs (dAt p4 Bs.length i)) (ea_cons (ev_var (r := rint (q : Int)) rfl) ea_nil) (by omega) rfl fun i hi => ev_op (ev_var (r := rints Bs) rfl) (ev_drawS (Ms := [.lst (kd.map D.int)]) (p := p4) (m := (Bs.length : Int)) (i := i) (ea_cons (ev_var rfl) (ea_cons (ev_cb (ea_cons (ev_var (r := rints Bs) rfl) ea_nil) (cd_lenI (.inl rfl))) ea_nil)) (by omega) (by omega)) (od_ixI (.inl rfl) (dAt_rng (by omega) i).1 (dAt_rng (by omega) i).2)) ?_
    intro F As σ H S
    try simp only [List.set_cons_zero, List.set_cons_succ] at S
    generalize pkB Bs p4 q = bs at S post
    generalize pAft p4 Bs.length q = p5 at S post
    refine s_ret S (r := .dat (twoL bs (pkB Ps p5 n))) (M' := [pmc (pAft p5 Ps.length n), .lst (kd.map D.int)]) (ev_tup (rs := [rints bs, rints (pkB Ps p5 n)]) (ea_cons (ev_var rfl) (ea_cons (ev_lcRS (n := (n : Int)) (fun i => [pmc (pAft p5 Ps.length i), .lst (kd.map D.int)]) (fun i => gI Ps (dAt p5 Ps.length i)) (ea_cons (ev_var (r := rint (n : Int)) rfl) ea_nil) (by omega) rfl fun i hi => ev_op (ev_var (r := rints Ps) rfl) (ev_drawS (Ms := [.lst (kd.map D.int)]) (p := p5) (m := (Ps.length : Int)) (i := i) (ea_cons (ev_var rfl) (ea_cons (ev_cb (ea_cons (ev_var (r := rints Ps) rfl) ea_nil) (cd_lenI (.inl rfl))) ea_nil)) (by omega) (by omega)) (od_ixI (.inl rfl) (dAt_rng (by omega) i).1 (dAt_rng (by omega) i).2)) ea_nil)) rfl (Nat.le_of_ble_eq_true rfl)) ?_
    intro v F As σ H S r
    exact post _ _ _ _ _ _ _ S rfl r
end K09
set_option Elab.async false
set_option linter.all false
set_option maxRecDepth 100000
set_option maxHeartbeats 4000000
namespace K09
open PySem L2 DL
/-! ### the steps: one rule an expression, by its reading's head -/
local macro_rules | `(tactic| wtm_at "ev") => `(tactic| first
  | exact ev_var rfl
  | exact ev_int
  | exact ev_non
  | exact ev_bl
  | exact ev_str
  | exact ea_nil
  | with_reducible apply ea_cons
  | ((with_reducible refine' ev_isi ?a ?b ?c); (case' a => repeat' wtm_at "ev"); (case' b => exact rfl); (case' c => exact rfl))
  | with_reducible apply ev_cb
  | with_reducible apply ev_op
  | with_reducible apply ev_un
  | with_reducible apply et_test
  | with_reducible apply et_B
  | with_reducible apply et_not
  | with_reducible apply ev_isN
  | with_reducible apply ev_notN
  | with_reducible apply ev_notV
  | with_reducible apply et_and
  | with_reducible apply et_or
  | with_reducible apply ev_andV
  | with_reducible apply ev_orV
  | with_reducible apply ev_ifI
  | with_reducible apply ev_ifD
  | ((with_reducible refine' ev_dnotin ?a ?b ?c ?d); (case' a => repeat' wtm_at "ev"); (case' b => repeat' wtm_at "ev"); (case' c => exact rfl); (case' d => first | exact .inl rfl | exact .inr ⟨_, rfl, rfl⟩))
  | ((with_reducible refine' ev_din ?a ?b ?c ?d); (case' a => repeat' wtm_at "ev"); (case' b => repeat' wtm_at "ev"); (case' c => exact rfl); (case' d => first | exact .inl rfl | exact .inr ⟨_, rfl, rfl⟩))
  | with_reducible apply ev_lcLAI
  | with_reducible apply ev_lcLII
  | with_reducible apply ev_lcLA
  | with_reducible apply ev_lcLI
  | with_reducible apply ev_lcRAI
  | with_reducible apply ev_lcRI
  | with_reducible apply ev_lcRA
  | with_reducible apply ev_lcR
  | exact et_yes
  | with_reducible intro _
  | exact od_int
  | exact od_bool
  | exact od_eqI
  | exact od_neI
  | exact od_eqS
  | exact od_neS
  | exact ud_neg
  | exact cd_abs
  | exact cd_max2
  | exact cd_min2
  | exact cd_int
  | exact cd_intB
  | exact cd_lenScr
  | exact cd_lenT
  | exact cd_lenI (.inl rfl)
  | exact cd_lenI (.inr ⟨_, rfl, rfl⟩)
  | exact cd_len (.inl rfl)
  | exact cd_len (.inr ⟨_, rfl, rfl⟩)
  | exact cd_lenD (.inl rfl)
  | exact cd_lenD (.inr ⟨_, rfl, rfl⟩)
  | exact cd_sum (.inl rfl)
  | exact cd_sorted (.inl rfl)
  | exact cd_list (.inl rfl)
  | exact cd_listT
  | exact eo_none
  | with_reducible apply eo_some
  | with_reducible apply ev_sliceScr
  | refine' ev_sliceI ?_ ?_ ?_ (.inl rfl)
  | with_reducible apply od_intC
  | with_reducible apply od_ixScr
  | refine' od_ixI (.inl rfl) ?_ ?_
  | refine' od_ixI (.inr ⟨_, rfl, rfl⟩) ?_ ?_
  | exact od_ixT rfl
  | exact od_inI (.inl rfl)
  | exact od_notinI (.inl rfl)
  | refine' od_cat (.inl rfl) (.inl rfl) ?_
  | ((with_reducible refine' ev_tup ?h ?r ?l); (case' h => repeat' wtm_at "ev"); (case' r => exact rfl); (case' l => exact Nat.le_of_ble_eq_true rfl))
  | (refine (show CMul _ _ from .inl ⟨?_, ?_⟩) <;> decide)
  | (refine (show CMul _ _ from .inr ⟨?_, ?_⟩) <;> decide)
  | (refine (show (_ : Prop) from ?_); assumption)
  | (refine (show CDiv _ _ from ⟨?_, ?_⟩) <;> omega)
  | (refine (show CPow _ _ from ⟨?_, ?_, ?_⟩) <;> decide)
  | omega
  | (simp only [Pz.len]; done)
  | (simp only [Pz.len, List.length_map, List.length_append, List.length_range, List.length_set, List.length_reverse]; omega))
/-! a statement's step: its values are reckoned, what is left is the way on -/
local macro_rules | `(tactic| wtm_at "st") => `(tactic| first
  | (refine' q_set (by assumption) ?h ?k; (case' h => repeat' wtm_at "ev"); (case' k => (intro _ _ _ _ _; try dsimp only)))
  | (refine' s_set (by assumption) ?h ?k; (case' h => repeat' wtm_at "ev"); (case' k => (intro _ _ _ _ _; try dsimp only)))
  | (refine' q_augS (by assumption) ?h1 ?h2 ?h3 ?r1 ?r2 ?s1 ?s2 ?k; (case' h1 => repeat' wtm_at "ev"); (case' h2 => repeat' wtm_at "ev"); (case' h3 => repeat' wtm_at "ev"); (case' r1 => exact rfl); (case' r2 => exact rfl); (case' s1 => try wtm_at "ev"); (case' s2 => try wtm_at "ev"); (case' k => (intro _ _ _ _ _; try dsimp only)))
  | (refine' s_augS (by assumption) ?h1 ?h2 ?h3 ?r1 ?r2 ?s1 ?s2 ?k; (case' h1 => repeat' wtm_at "ev"); (case' h2 => repeat' wtm_at "ev"); (case' h3 => repeat' wtm_at "ev"); (case' r1 => exact rfl); (case' r2 => exact rfl); (case' s1 => try wtm_at "ev"); (case' s2 => try wtm_at "ev"); (case' k => (intro _ _ _ _ _; try dsimp only)))
  | (refine' q_setLI (by assumption) ?h ?h1 ?h2 ?r1 ?s1 ?s2 ?k; (case' h => repeat' wtm_at "ev"); (case' h1 => repeat' wtm_at "ev"); (case' h2 => repeat' wtm_at "ev"); (case' r1 => exact rfl); (case' s1 => try wtm_at "ev"); (case' s2 => try wtm_at "ev"); (case' k => (intro _ _ _ _ _; try dsimp only)))
  | (refine' q_setL (by assumption) ?h ?h1 ?h2 ?r1 ?s1 ?s2 ?k; (case' h => repeat' wtm_at "ev"); (case' h1 => repeat' wtm_at "ev"); (case' h2 => repeat' wtm_at "ev"); (case' r1 => exact rfl); (case' s1 => try wtm_at "ev"); (case' s2 => try wtm_at "ev"); (case' k => (intro _ _ _ _ _; try dsimp only)))
  | (refine' s_setLI (by assumption) ?h ?h1 ?h2 ?r1 ?s1 ?s2 ?k; (case' h => repeat' wtm_at "ev"); (case' h1 => repeat' wtm_at "ev"); (case' h2 => repeat' wtm_at "ev"); (case' r1 => exact rfl); (case' s1 => try wtm_at "ev"); (case' s2 => try wtm_at "ev"); (case' k => (intro _ _ _ _ _; try dsimp only)))
  | (refine' s_setL (by assumption) ?h ?h1 ?h2 ?r1 ?s1 ?s2 ?k; (case' h => repeat' wtm_at "ev"); (case' h1 => repeat' wtm_at "ev"); (case' h2 => repeat' wtm_at "ev"); (case' r1 => exact rfl); (case' s1 => try wtm_at "ev"); (case' s2 => try wtm_at "ev"); (case' k => (intro _ _ _ _ _; try dsimp only)))
  | (refine' q_appI (by assumption) ?h1 ?h ?r1 ?r2 ?s ?k; (case' h1 => repeat' wtm_at "ev"); (case' h => repeat' wtm_at "ev"); (case' r1 => exact rfl); (case' r2 => exact rfl); (case' s => try wtm_at "ev"); (case' k => (intro _ _ _ _ _; try dsimp only)))
  | (refine' q_app (by assumption) ?h1 ?h ?r1 ?r2 ?s ?k; (case' h1 => repeat' wtm_at "ev"); (case' h => repeat' wtm_at "ev"); (case' r1 => exact rfl); (case' r2 => exact rfl); (case' s => try wtm_at "ev"); (case' k => (intro _ _ _ _ _; try dsimp only)))
  | (refine' s_appI (by assumption) ?h1 ?h ?r1 ?r2 ?s ?k; (case' h1 => repeat' wtm_at "ev"); (case' h => repeat' wtm_at "ev"); (case' r1 => exact rfl); (case' r2 => exact rfl); (case' s => try wtm_at "ev"); (case' k => (intro _ _ _ _ _; try dsimp only)))
  | (refine' s_app (by assumption) ?h1 ?h ?r1 ?r2 ?s ?k; (case' h1 => repeat' wtm_at "ev"); (case' h => repeat' wtm_at "ev"); (case' r1 => exact rfl); (case' r2 => exact rfl); (case' s => try wtm_at "ev"); (case' k => (intro _ _ _ _ _; try dsimp only)))
  | (refine' q_dput (by assumption) ?h ?h1 ?h2 ?r1 ?r2 ?s ?k; (case' h => repeat' wtm_at "ev"); (case' h1 => repeat' wtm_at "ev"); (case' h2 => repeat' wtm_at "ev"); (case' r1 => exact rfl); (case' r2 => exact rfl); (case' s => try wtm_at "ev"); (case' k => (intro _ _ _ _ _; try dsimp only)))
  | (refine' s_dput (by assumption) ?h ?h1 ?h2 ?r1 ?r2 ?s ?k; (case' h => repeat' wtm_at "ev"); (case' h1 => repeat' wtm_at "ev"); (case' h2 => repeat' wtm_at "ev"); (case' r1 => exact rfl); (case' r2 => exact rfl); (case' s => try wtm_at "ev"); (case' k => (intro _ _ _ _ _; try dsimp only)))
  | (refine' q_tup2 (by assumption) ?h ?k; (case' h => repeat' wtm_at "ev"); (case' k => (intro _ _ _ _ _; try dsimp only)))
  | (refine' q_drop (by assumption) ?h ?k; (case' h => repeat' wtm_at "ev"); (case' k => (intro _ _ _ _ _; try dsimp only)))
  | (refine' q_if (by assumption) ?h ?k1 ?k2; (case' h => repeat' wtm_at "ev"))
  | (refine' s_if (by assumption) ?h ?k1 ?k2; (case' h => repeat' wtm_at "ev"))
  | (refine' s_ret (by assumption) ?h ?k; (case' h => repeat' wtm_at "ev"); (case' k => (intro _ _ _ _ _ _ _; try dsimp only)))
  | (refine' q_ret (by assumption) ?h ?k; (case' h => repeat' wtm_at "ev"); (case' k => (intro _ _ _ _ _ _ _; try dsimp only)))
  | ((with_reducible refine' s_next (by assumption) ?k); (case' k => (intro _ _ _ _ _; try dsimp only)))
  | (with_reducible refine q_next ?_))

theorem map_getD (F : List (Int × Int)) : (List.range F.length).map (fun i => F.getD i (0, 0)) = F := by
  refine List.ext_getElem? fun i => ?_
  rw [List.getElem?_map]
  by_cases h : i < F.length
  · rw [List.getElem?_range h, List.getElem?_eq_getElem h]
    show some (F.getD i (0, 0)) = _
    rw [List.getD_eq_getElem?_getD, List.getElem?_eq_getElem h]; rfl
  · rw [List.getElem?_eq_none (by simpa using h), List.getElem?_eq_none (by omega)]; rfl
theorem givD_pairs (F : List (Int × Int)) (p : Int × Int → Bool) (f : Int × Int → D) : givD F.length (fun i => p (F.getD i (0, 0))) (fun i => f (F.getD i (0, 0))) = (F.filter p).map f := by
  have h : (F.filter p).map f = (((List.range F.length).map (fun i => F.getD i (0, 0))).filter p).map f := by rw [map_getD]
  rw [h, List.filter_map, List.map_map]; rfl
section
variable {K : PySem.W.Frag} {tl te : TE} {tt : TT} {M M1 : List MC} {E : List (Option Rv)} {j : Nat}
theorem ev_lcP {F : List (Int × Int)} (p : Int × Int → Bool) (f : Int × Int → D) (ha : EvD K tl M E M1 (.dat (pairsD F))) (hn : F.length ≤ 16777000)
    (ht : ∀ q ∈ F, EvT K tt M1 (E.set j (some (.dat (pairD q)))) M1 (p q)) (he : ∀ q ∈ F, p q = true → EvD K te M1 (E.set j (some (.dat (pairD q)))) M1 (.dat (f q))) :
    EvD K (tLc (iList K tl) (gName j) tt te [j]) M E M1 (.dat (.lst ((F.filter p).map f))) := by
  have h := ev_lcL (tt := tt) (te := te) (j := j) (fun _ => M1) (fun i => p (F.getD i (0, 0))) (fun i => f (F.getD i (0, 0))) ha (by rw [List.length_map]; exact hn) rfl fun i d hd => by
    rw [List.getElem?_map] at hd
    cases c : F[i]? with
    | none => rw [c] at hd; cases hd
    | some q =>
      rw [c] at hd; cases hd
      have hm := List.mem_of_getElem? c
      have e : F.getD i (0, 0) = q := by rw [List.getD_eq_getElem?_getD, c]; rfl
      exact LcT.tested (by rw [e]; exact ht q hm) (by rw [e]; exact he q hm)
  rw [List.length_map, givD_pairs] at h
  exact h
end
theorem pr_at {G : List (Int × Int)} {i : Int} (h0 : 0 ≤ i) (h1 : i < G.length) : atI (G.map pairD) i = some (pairD (G.getD i.toNat (0, 0))) ∧ G.getD i.toNat (0, 0) ∈ G := by
  have h : i.toNat < G.length := by omega
  refine ⟨atI_of h0 ?_, ?_⟩
  · rw [List.getElem?_map, List.getElem?_eq_getElem h, List.getD_eq_getElem?_getD, List.getElem?_eq_getElem h]; rfl
  · rw [List.getD_eq_getElem?_getD, List.getElem?_eq_getElem h]
    exact List.getElem_mem h

theorem ev_lcLS {K : PySem.W.Frag} {tl te : TE} {M M1 : List MC} {E : List (Option Rv)} {j : Nat} {ns : List Int} (Ms : Nat → List MC) (f : Nat → Int) (ha : EvD K tl M E M1 (rints ns)) (hn : ns.length ≤ 16777000) (h0 : Ms 0 = M1)
    (he : ∀ i : Nat, i < ns.length → EvD K te (Ms i) (E.set j (some (rint (gI ns (i : Int))))) (Ms (i + 1)) (rint (f i))) :
    EvD K (tLc (iList K tl) (gName j) tYes te [j]) M E (Ms ns.length) (rints (arr ns.length f)) := by
  have h := ev_lcL (tt := tYes) (te := te) (j := j) Ms (fun _ => true) (fun i => .int (f i)) ha (by rw [List.length_map]; exact hn) h0 fun i d hd => by
    rw [List.getElem?_map] at hd
    cases c : ns[i]? with
    | none => rw [c] at hd; cases hd
    | some z =>
      rw [c] at hd; cases hd
      have hl := (List.getElem?_eq_some_iff.mp c).1
      have e : gI ns (i : Int) = z := by
        show ns.getD i 0 = z
        rw [List.getD_eq_getElem?_getD, c]; rfl
      have := he i hl
      rw [e] at this
      exact LcT.moved this
  rw [givD_all, List.length_map] at h
  have e : ((List.range ns.length).map fun i => D.int (f i)) = (arr ns.length f).map D.int := by unfold arr; rw [List.map_map]; rfl
  rwa [e] at h
/-! ### the drawn rows -/
def rw0 (p : Pz) (m : Int) (n : Nat) : List Int := (List.range n).map fun i => dAt p m i - 1
def rw2 (p : Pz) (low : List Int) : List Int := arr low.length fun i => gI low (i : Int) + dAt p 2 i
def rw3 (p : Pz) (low : List Int) : List Int := arr low.length fun i => gI low (i : Int) + if 0 < dAt p 4 i then 1 else 0
def rwA (js : List Int) (a : Int) (z : Int) : List Int := cutD js none (some a) ++ [gI js a + z] ++ cutD js (some (a + 1)) none
def rwB (p : Pz) (t : Int) (low : List Int) (cs : List (Int × Int)) : Pz × List (List Int) :=
  if cs = [] then (p, []) else
    ((draw (draw p cs.length).2 t).2, [sumR low (easR t (cs.getD (draw p cs.length).1.toNat (0, 0))), rwA (sumR low (easR t (cs.getD (draw p cs.length).1.toNat (0, 0)))) (draw (draw p cs.length).2 t).1 (-1), rwA (sumR low (easR t (cs.getD (draw p cs.length).1.toNat (0, 0)))) (draw (draw p cs.length).2 t).1 5])
def rwsP (p : Pz) (t : Int) (low : List Int) (m : Int) : Pz := pAft (pAft (pAft p (m + 3) t.toNat) 2 low.length) 4 low.length
def rwsF (p : Pz) (t : Int) (bs ps : List Int) : Pz × List (List Int) :=
  ((draw (rwB (rwsP p t ((skyR t bs ps).map fun z => z - 1) (bs.length + ps.length)) t ((skyR t bs ps).map fun z => z - 1) (goL bs ps)).1 3).2,
    [rw0 p (bs.length + ps.length + 3) t.toNat, (skyR t bs ps).map fun z => z - 1, rw2 (pAft p (bs.length + ps.length + 3) t.toNat) ((skyR t bs ps).map fun z => z - 1), rw3 (pAft (pAft p (bs.length + ps.length + 3) t.toNat) 2 ((skyR t bs ps).map fun z => z - 1).length) ((skyR t bs ps).map fun z => z - 1)]
    ++ (rwB (rwsP p t ((skyR t bs ps).map fun z => z - 1) (bs.length + ps.length)) t ((skyR t bs ps).map fun z => z - 1) (goL bs ps)).2
    ++ [List.replicate t.toNat (bs.length + ps.length : Int), List.replicate t.toNat (0 - 1 - (draw (rwB (rwsP p t ((skyR t bs ps).map fun z => z - 1) (bs.length + ps.length)) t ((skyR t bs ps).map fun z => z - 1) (goL bs ps)).1 3).1)])
theorem sumR_len {xs ys : List Int} : (sumR xs ys).length = xs.length := arr_len
theorem rwA_eq {js : List Int} {a z : Int} (h0 : 0 ≤ a) (h1 : a < js.length) : rwA js a z = js.take a.toNat ++ [gI js a + z] ++ js.drop (a.toNat + 1) := by
  obtain ⟨k, rfl⟩ := Int.eq_ofNat_of_zero_le h0
  unfold rwA
  rw [show (k : Int) + 1 = ((k + 1 : Nat) : Int) by omega, cut_take (by omega), cut_drop (by omega), Int.toNat_natCast]
theorem rwA_len {js : List Int} {a z : Int} (h0 : 0 ≤ a) (h1 : a < js.length) : (rwA js a z).length = js.length := by
  rw [rwA_eq h0 h1, List.length_append, List.length_append, List.length_take, List.length_drop, List.length_singleton]
  omega
theorem rwB_len {p : Pz} {t : Int} {low : List Int} {cs : List (Int × Int)} (ht : 1 ≤ t) (hl : low.length = t.toNat) : ∀ r ∈ (rwB p t low cs).2, r.length = t.toNat := by
  unfold rwB
  split
  · intro r hr; cases hr
  · have r := draw_rng (p := (draw p cs.length).2) (m := t) (by omega)
    have l : (sumR low (easR t (cs.getD (draw p cs.length).1.toNat (0, 0)))).length = t.toNat := by rw [sumR_len, hl]
    intro r hr
    simp only [List.mem_cons, List.not_mem_nil, or_false] at hr
    rcases hr with rfl | rfl | rfl
    · exact l
    · rw [rwA_len r.1 (by omega), l]
    · rw [rwA_len r.1 (by omega), l]
theorem rwsF_len {p : Pz} {t : Int} {bs ps : List Int} (ht : 1 ≤ t) : ∀ r ∈ (rwsF p t bs ps).2, r.length = t.toNat := by
  have ls : ((skyR t bs ps).map fun z => z - 1).length = t.toNat := by rw [List.length_map, sky_len]
  have hB := rwB_len (p := rwsP p t ((skyR t bs ps).map fun z => z - 1) (bs.length + ps.length)) (cs := goL bs ps) ht ls
  intro r hr
  unfold rwsF at hr
  rcases List.mem_append.mp hr with hr | hr
  · rcases List.mem_append.mp hr with hr | hr
    · simp only [List.mem_cons, List.not_mem_nil, or_false] at hr
      rcases hr with rfl | rfl | rfl | rfl
      · unfold rw0; rw [List.length_map, List.length_range]
      · exact ls
      · unfold rw2; rw [arr_len, ls]
      · unfold rw3; rw [arr_len, ls]
    · exact hB r hr
  · simp only [List.mem_cons, List.not_mem_nil, or_false] at hr
    rcases hr with rfl | rfl <;> rw [List.length_replicate]
theorem rwsF_cnt {p : Pz} {t : Int} {bs ps : List Int} : (rwsF p t bs ps).2.length ≤ 9 := by
  unfold rwsF rwB
  rw [List.length_append, List.length_append]
  split <;> exact Nat.le_of_ble_eq_true rfl
def ph_rws : List MC → List Rv → List MC → Out → Prop := fun M rs M' o => ∃ p t bs ps, M = [pmc p] ∧ rs = [.cel 0, rint t, rints bs, rints ps] ∧ (1 ≤ t ∧ t ≤ 60) ∧ bs.length < 64 ∧ ps.length < 64 ∧ M' = [pmc (rwsF p t bs ps).1] ∧ o = .ret (rowsD (rwsF p t bs ps).2)
abbrev sp__law_k09_rows (K : PySem.W.Frag) : Sp := FSp K ph_rws
theorem ok__law_k09_rows {P : Program} {w : World} {K : PySem.W.Frag} {mg : Str → Option Value} {base : Heap} {ad : Ad} {fd : Fd} (T : Txt K mg w ad fd) : FnOk P w K mg base CX0 3 ad.a__law_k09_rows fd.d__law_k09_rows ["purse", "top", "bores", "pins"] (sp__law_k09_rows K) := by
  have G__law_couples := ok__law_couples (P := P) (base := base) T
  have b__law_couples := T.F__law_couples.binds (ps := ["bores", "pins"]) fun _ _ _ _ _ _ us hl => match us, hl with | [_, _], _ => rfl
  have G__law_draw := ok__law_draw (P := P) (base := base) T
  have b__law_draw := T.F__law_draw.binds (ps := ["purse", "many"]) fun _ _ _ _ _ _ us hl => match us, hl with | [_, _], _ => rfl
  have G__law_eased := ok__law_eased (P := P) (base := base) T
  have b__law_eased := T.F__law_eased.binds (ps := ["top", "pair"]) fun _ _ _ _ _ _ us hl => match us, hl with | [_, _], _ => rfl
  have G__law_sky := ok__law_sky (P := P) (base := base) T
  have b__law_sky := T.F__law_sky.binds (ps := ["top", "bores", "pins"]) fun _ _ _ _ _ _ us hl => match us, hl with | [_, _, _], _ => rfl
  have G__law_summed := ok__law_summed (P := P) (base := base) T
  have b__law_summed := T.F__law_summed.binds (ps := ["row", "other"]) fun _ _ _ _ _ _ us hl => match us, hl with | [_, _], _ => rfl
  refine L2.Fun.ok (k := 2) T.F__law_k09_rows sc__law_k09_rows (fun vs H Q E h => ?_) (fun cdv A outer s H vs Q E hr h => ?_)
  · exact h.len fun M rs M' o ⟨_, _, _, _, _, e, _⟩ => by rw [e]; rfl
  · have hu := hu_of hr
    refine ⟨_, (pss_cons (ps_setLc (i := 4) rfl sc__law_k09_rows.nd rfl rfl (sw_true rfl rfl rfl (by decide +kernel)) (pi_listK (K := K) rfl (pe_call G__law_sky (hr.mono (by first | decide | omega)) rfl T.g__law_sky T.F__law_sky.kp b__law_sky .nil pass0 (pa_cons (pv 1) (pa_cons (pv 2) (pa_cons (pv 3) pa_nil))))) (blkOk_by (own := [("one", 5)]) (N := N__law_k09_rows) (sc := defScope s__law_k09_rows) (by decide +kernel)) (fun _ _ _ _ _ => (pg_name (i := 5) sc__law_k09_rows.nd rfl (by first | exact Or.inl rfl | exact Or.inr rfl))) (fun _ _ _ _ _ => pts_nil) (fun _ _ _ _ _ => (pe_op op_sub (pv 5) (pe_int))))
  (pss_cons (ps_set (i := 6) sc__law_k09_rows.nd rfl (by first | exact Or.inl rfl | exact Or.inr rfl) (pe_op op_add (pe_callB (call_lenK (K := K) rfl) (by rfl) T.n_len (by decide +kernel) (pa_cons (pv 2) pa_nil)) (pe_callB (call_lenK (K := K) rfl) (by rfl) T.n_len (by decide +kernel) (pa_cons (pv 3) pa_nil))))
  (pss_cons (ps_set (i := 7) sc__law_k09_rows.nd rfl (by first | exact Or.inl rfl | exact Or.inr rfl) (pe_lst (pa_cons (pe_lc rfl sc__law_k09_rows.nd (pi_range1 (by rfl) T.n_range (pa_cons (pv 1) pa_nil)) (blkOk_by (own := [("e", 8)]) (N := N__law_k09_rows) (sc := defScope s__law_k09_rows) (by decide +kernel)) (fun _ _ _ _ _ => (pg_name (i := 8) sc__law_k09_rows.nd rfl (by first | exact Or.inl rfl | exact Or.inr rfl))) (fun _ _ _ _ _ => pts_nil) (fun _ _ _ _ _ => (pe_op op_sub (pe_call G__law_draw (hr.mono (by first | decide | omega)) rfl T.g__law_draw T.F__law_draw.kp b__law_draw .nil pass0 (pa_cons (pv 0) (pa_cons (pe_op op_add (pv 6) (pe_int)) pa_nil))) (pe_int)))) (pa_cons (pv 4) pa_nil))))
  (pss_cons (ps_expr (pe_bmK (K := K) (id := "list.append") rfl (pe_bm PySem.F.plainAttrs_list PySem.F.slot_list_append PySem.F.type_list_append mt_append (pv 7) (pa_cons (pe_lc rfl sc__law_k09_rows.nd (pi_listK (K := K) rfl (pv 4)) (blkOk_by (own := [("one", 5)]) (N := N__law_k09_rows) (sc := defScope s__law_k09_rows) (by decide +kernel)) (fun _ _ _ _ _ => (pg_name (i := 5) sc__law_k09_rows.nd rfl (by first | exact Or.inl rfl | exact Or.inr rfl))) (fun _ _ _ _ _ => pts_nil) (fun _ _ _ _ _ => (pe_op op_add (pv 5) (pe_call G__law_draw (hr.mono (by first | decide | omega)) rfl T.g__law_draw T.F__law_draw.kp b__law_draw .nil pass0 (pa_cons (pv 0) (pa_cons (pe_int) pa_nil)))))) pa_nil))))
  (pss_cons (ps_expr (pe_bmK (K := K) (id := "list.append") rfl (pe_bm PySem.F.plainAttrs_list PySem.F.slot_list_append PySem.F.type_list_append mt_append (pv 7) (pa_cons (pe_lc rfl sc__law_k09_rows.nd (pi_listK (K := K) rfl (pv 4)) (blkOk_by (own := [("one", 5)]) (N := N__law_k09_rows) (sc := defScope s__law_k09_rows) (by decide +kernel)) (fun _ _ _ _ _ => (pg_name (i := 5) sc__law_k09_rows.nd rfl (by first | exact Or.inl rfl | exact Or.inr rfl))) (fun _ _ _ _ _ => pts_nil) (fun _ _ _ _ _ => (pe_op op_add (pv 5) (pe_ifExp (pt_cmpR op_gt (pe_call G__law_draw (hr.mono (by first | decide | omega)) rfl T.g__law_draw T.F__law_draw.kp b__law_draw .nil pass0 (pa_cons (pv 0) (pa_cons (pe_int) pa_nil))) (pe_int) (nomark _)) (pe_int) (pe_int))))) pa_nil))))
  (pss_cons (ps_set (i := 9) sc__law_k09_rows.nd rfl (by first | exact Or.inl rfl | exact Or.inr rfl) (pe_call G__law_couples (hr.mono (by first | decide | omega)) rfl T.g__law_couples T.F__law_couples.kp b__law_couples .nil pass0 (pa_cons (pv 2) (pa_cons (pv 3) pa_nil))))
  (pss_cons (ps_if (pt_truthK (K := K) rfl (pv 9)) (pss_cons (ps_set (i := 10) sc__law_k09_rows.nd rfl (by first | exact Or.inl rfl | exact Or.inr rfl) (pe_ix (ix_listK (K := K) rfl) (pv 9) (pe_call G__law_draw (hr.mono (by first | decide | omega)) rfl T.g__law_draw T.F__law_draw.kp b__law_draw .nil pass0 (pa_cons (pv 0) (pa_cons (pe_callB (call_lenK (K := K) rfl) (by rfl) T.n_len (by decide +kernel) (pa_cons (pv 9) pa_nil)) pa_nil))) (fun _ _ => rfl)))
  (pss_cons (ps_set (i := 11) sc__law_k09_rows.nd rfl (by first | exact Or.inl rfl | exact Or.inr rfl) (pe_call G__law_summed (hr.mono (by first | decide | omega)) rfl T.g__law_summed T.F__law_summed.kp b__law_summed .nil pass0 (pa_cons (pv 4) (pa_cons (pe_call G__law_eased (hr.mono (by first | decide | omega)) rfl T.g__law_eased T.F__law_eased.kp b__law_eased .nil pass0 (pa_cons (pv 1) (pa_cons (pv 10) pa_nil))) pa_nil))))
  (pss_cons (ps_expr (pe_bmK (K := K) (id := "list.append") rfl (pe_bm PySem.F.plainAttrs_list PySem.F.slot_list_append PySem.F.type_list_append mt_append (pv 7) (pa_cons (pv 11) pa_nil))))
  (pss_cons (ps_set (i := 12) sc__law_k09_rows.nd rfl (by first | exact Or.inl rfl | exact Or.inr rfl) (pe_call G__law_draw (hr.mono (by first | decide | omega)) rfl T.g__law_draw T.F__law_draw.kp b__law_draw .nil pass0 (pa_cons (pv 0) (pa_cons (pv 1) pa_nil))))
  (pss_cons (ps_expr (pe_bmK (K := K) (id := "list.append") rfl (pe_bm PySem.F.plainAttrs_list PySem.F.slot_list_append PySem.F.type_list_append mt_append (pv 7) (pa_cons (pe_op op_cat (pe_op op_cat (pe_slice (sl_listK (K := K) rfl) (pv 11) po_none (po_some (pv 12))) (pe_lst (pa_cons (pe_op op_sub (pe_ix (ix_listK (K := K) rfl) (pv 11) (pv 12) (fun _ _ => rfl)) (pe_int)) pa_nil))) (pe_slice (sl_listK (K := K) rfl) (pv 11) (po_some (pe_op op_add (pv 12) (pe_int))) po_none)) pa_nil))))
  (pss_one (ps_expr (pe_bmK (K := K) (id := "list.append") rfl (pe_bm PySem.F.plainAttrs_list PySem.F.slot_list_append PySem.F.type_list_append mt_append (pv 7) (pa_cons (pe_op op_cat (pe_op op_cat (pe_slice (sl_listK (K := K) rfl) (pv 11) po_none (po_some (pv 12))) (pe_lst (pa_cons (pe_op op_add (pe_ix (ix_listK (K := K) rfl) (pv 11) (pv 12) (fun _ _ => rfl)) (pe_int)) pa_nil))) (pe_slice (sl_listK (K := K) rfl) (pv 11) (po_some (pe_op op_add (pv 12) (pe_int))) po_none)) pa_nil)))))))))) pss_nil)
  (pss_cons (ps_expr (pe_bmK (K := K) (id := "list.append") rfl (pe_bm PySem.F.plainAttrs_list PySem.F.slot_list_append PySem.F.type_list_append mt_append (pv 7) (pa_cons (pe_op op_rep (pe_lst (pa_cons (pv 6) pa_nil)) (pv 1)) pa_nil))))
  (pss_cons (ps_expr (pe_bmK (K := K) (id := "list.append") rfl (pe_bm PySem.F.plainAttrs_list PySem.F.slot_list_append PySem.F.type_list_append mt_append (pv 7) (pa_cons (pe_op op_rep (pe_lst (pa_cons (pe_op op_sub (pe_op op_sub (pe_int) (pe_int)) (pe_call G__law_draw (hr.mono (by first | decide | omega)) rfl T.g__law_draw T.F__law_draw.kp b__law_draw .nil pass0 (pa_cons (pv 0) (pa_cons (pe_int) pa_nil)))) pa_nil)) (pv 1)) pa_nil))))
  (pss_one (ps_ret (pv 7)))))))))))), ?_⟩
    try dsimp only [cxOf, Cx.nox, Cx.wish, List.map]
    refine h.reading fun F As M rs M' o hΦ hL B S hB hA post => ?_
    obtain ⟨p, t, bs, ps, rfl, rfl, ht, lb, lp, rfl, rfl⟩ := hΦ
    dsimp only at post
    have ls := sky_len (t := t) (bs := bs) (ps := ps)
    unfold rwsF rwsP at post
    refine q_set S (r := rints ((skyR t bs ps).map fun z => z - 1)) (M' := [pmc p]) (ev_lcLAI (ns := skyR t bs ps) (fun z => z - 1) (ev_call0 (d := .lst ((skyR t bs ps).map D.int)) (ea_cons (ev_var (r := rint t) rfl) (ea_cons (ev_var (r := rints bs) rfl) (ea_cons (ev_var (r := rints ps) rfl) ea_nil))) (by intro z; cases z) ⟨t, bs, ps, rfl, rfl, arg_of ⟨by omega, by omega⟩ (by omega) (by omega), rfl, rfl⟩) (by omega) fun z hz => ev_op (ev_var (r := rint z) rfl) ev_int od_int) ?_
    intro F As σ H S
    try simp only [List.set_cons_zero, List.set_cons_succ] at S
    have ll : ((skyR t bs ps).map fun z => z - 1).length = t.toNat := by rw [List.length_map, ls]
    have lg := goL_len (bs := bs) (ps := ps)
    have lg2 : (goL bs ps).length ≤ 4096 := Nat.le_trans lg (Nat.le_trans (Nat.mul_le_mul (show ps.length ≤ 64 by omega) (show bs.length ≤ 64 by omega)) (Nat.le_of_ble_eq_true rfl))
    generalize (skyR t bs ps).map (fun z => z - 1) = low at S post ll
    refine q_set S (r := rint ((bs.length : Int) + ps.length)) (M' := [pmc p]) (ev_op (ev_cb (ea_cons (ev_var (r := rints bs) rfl) ea_nil) (cd_lenI (.inl rfl))) (ev_cb (ea_cons (ev_var (r := rints ps) rfl) ea_nil) (cd_lenI (.inl rfl))) od_int) ?_
    intro F As σ H S
    try simp only [List.set_cons_zero, List.set_cons_succ] at S
    generalize hm : (bs.length : Int) + ps.length = m at S post
    have m0 : 0 ≤ m ∧ m ≤ 128 := by omega
    refine q_set S (r := .cel 1) (M' := [pmc (pAft p (m + 3) t.toNat), .lst [dints (rw0 p (m + 3) t.toNat), dints low]]) (ev_lstM (ds := [dints (rw0 p (m + 3) t.toNat), dints low]) (ea_cons (ev_lcRS (n := t) (fun i => [pmc (pAft p (m + 3) i)]) (fun i => dAt p (m + 3) i - 1) (ea_cons (ev_var (r := rint t) rfl) ea_nil) (by omega) rfl fun i hi => ev_op (ev_drawS (Ms := []) (p := p) (m := m + 3) (i := i) (ea_cons (ev_var rfl) (ea_cons (ev_op (ev_var (r := rint m) rfl) ev_int od_int) ea_nil)) (by omega) (by omega)) ev_int od_int) (ea_cons (ev_var (r := rints low) rfl) ea_nil)) rfl (Nat.le_of_ble_eq_true rfl)) ?_
    intro F As σ H S
    try simp only [List.set_cons_zero, List.set_cons_succ] at S
    generalize pAft p (m + 3) t.toNat = p1 at S post
    generalize rw0 p (m + 3) t.toNat = R0 at S post
    refine q_app S (k := 1) (ds := [dints R0, dints low]) (M2 := [pmc (pAft p1 2 low.length), .lst [dints R0, dints low]]) (d := dints (rw2 p1 low)) (ev_var (r := .cel 1) rfl) (ev_lcLS (ns := low) (fun i => [pmc (pAft p1 2 i), .lst [dints R0, dints low]]) (fun i => gI low (i : Int) + dAt p1 2 i) (ev_var (r := rints low) rfl) (by omega) rfl fun i hi => ev_op (ev_var (r := rint (gI low (i : Int))) rfl) (ev_drawS (Ms := [.lst [dints R0, dints low]]) (p := p1) (m := 2) (i := i) (ea_cons (ev_var rfl) (ea_cons ev_int ea_nil)) (by omega) (by omega)) od_int) rfl rfl (Nat.le_of_ble_eq_true rfl) ?_
    intro F As σ H S
    try simp only [List.set_cons_zero, List.set_cons_succ] at S
    generalize pAft p1 2 low.length = p2 at S post
    generalize rw2 p1 low = R2 at S post
    have S : Sta K B F As [pmc p2, .lst [dints R0, dints low, dints R2]] σ _ H := S
    refine q_app S (k := 1) (ds := [dints R0, dints low, dints R2]) (M2 := [pmc (pAft p2 4 low.length), .lst [dints R0, dints low, dints R2]]) (d := dints (rw3 p2 low)) (ev_var (r := .cel 1) rfl) (ev_lcLS (ns := low) (fun i => [pmc (pAft p2 4 i), .lst [dints R0, dints low, dints R2]]) (fun i => gI low (i : Int) + if 0 < dAt p2 4 i then 1 else 0) (ev_var (r := rints low) rfl) (by omega) rfl fun i hi => ev_op (ev_var (r := rint (gI low (i : Int))) rfl) (ev_if (b := decide (0 < dAt p2 4 i)) (et_test (ev_op (ev_drawS (Ms := [.lst [dints R0, dints low, dints R2]]) (p := p2) (m := 4) (i := i) (ea_cons (ev_var rfl) (ea_cons ev_int ea_nil)) (by omega) (by omega)) ev_int od_bool)) (fun hb => ev_is ev_int (by rw [if_pos (of_decide_eq_true hb)])) (fun hb => ev_is ev_int (by rw [if_neg (of_decide_eq_false hb)]))) od_int) rfl rfl (Nat.le_of_ble_eq_true rfl) ?_
    intro F As σ H S
    try simp only [List.set_cons_zero, List.set_cons_succ] at S
    generalize pAft p2 4 low.length = p3 at S post
    generalize rw3 p2 low = R3 at S post
    have S : Sta K B F As [pmc p3, .lst [dints R0, dints low, dints R2, dints R3]] σ _ H := S
    refine q_set S (r := .dat (pairsD (goL bs ps))) (M' := [pmc p3, .lst [dints R0, dints low, dints R2, dints R3]]) (ev_call0 (ea_cons (ev_var (r := rints bs) rfl) (ea_cons (ev_var (r := rints ps) rfl) ea_nil)) (by intro z; cases z) ⟨bs, ps, rfl, rfl, lb, lp, rfl, rfl⟩) ?_
    intro F As σ H S
    try simp only [List.set_cons_zero, List.set_cons_succ] at S
    have lG := lg2
    generalize goL bs ps = cs at S post lG
    generalize hz : rwB p3 t low cs = z at post
    unfold rwB at hz
    have emp : (!(cs.map pairD).isEmpty) = decide (cs ≠ []) := by cases cs <;> rfl
    refine q_ifE [pmc z.1, .lst ([dints R0, dints low, dints R2, dints R3] ++ z.2.map dints)] [some (.cel 0), some (rint t), some (rints bs), some (rints ps), some (rints low), none, some (rint m), some (.cel 1), none, none, none, none, none] S (b := decide (cs ≠ [])) (M1 := [pmc p3, .lst [dints R0, dints low, dints R2, dints R3]]) (et_is (et_truL (ds := cs.map pairD) (ev_var (r := .dat (pairsD cs)) rfl) (.inl rfl)) emp) ?_ ?_ ?_
    · intro hc De k F As σ H S
      have hc := of_decide_eq_true hc
      rw [if_neg hc] at hz
      have hl : 0 < cs.length := List.length_pos_iff.mpr hc
      have r1 := draw_rng (p := p3) (m := (cs.length : Int)) (by omega)
      have r2 := draw_rng (p := (draw p3 cs.length).2) (m := t) (by omega)
      refine q_set S (r := .dat (pairD (cs.getD (draw p3 cs.length).1.toNat (0, 0)))) (M' := [pmc (draw p3 cs.length).2, .lst [dints R0, dints low, dints R2, dints R3]]) (ev_op (ev_var (r := .dat (pairsD cs)) rfl) (ev_drawC (p := p3) (m := (cs.length : Int)) (Ms := [.lst [dints R0, dints low, dints R2, dints R3]]) (ea_cons (ev_var rfl) (ea_cons (ev_is (ev_cb (ea_cons (ev_var (r := .dat (pairsD cs)) rfl) ea_nil) (cd_len (ds := cs.map pairD) (.inl rfl))) (by rw [List.length_map])) ea_nil)) (by omega) (by omega)) (od_ixL (ds := cs.map pairD) (.inl rfl) (pr_at r1.1 r1.2).1)) ?_
      intro F As σ H S
      try simp only [List.set_cons_zero, List.set_cons_succ] at S
      generalize cs.getD (draw p3 cs.length).1.toNat (0, 0) = q at S hz
      generalize (draw p3 cs.length).2 = p4 at S hz r2
      refine q_set S (r := rints (sumR low (easR t q))) (M' := [pmc p4, .lst [dints R0, dints low, dints R2, dints R3]]) (ev_call0 (d := .lst ((sumR low (easR t q)).map D.int)) (ea_cons (ev_var (r := rints low) rfl) (ea_cons (ev_call0 (d := .lst ((easR t q).map D.int)) (ea_cons (ev_var (r := rint t) rfl) (ea_cons (ev_var (r := .dat (pairD q)) rfl) ea_nil)) (by intro z; cases z) ⟨t, q, rfl, rfl, ⟨by omega, by omega⟩, rfl, rfl⟩) ea_nil)) (by intro z; cases z) ⟨low, easR t q, rfl, rfl, by omega, by unfold easR; rw [arr_len, ll]; exact Nat.le_refl _, rfl, rfl⟩) ?_
      intro F As σ H S
      try simp only [List.set_cons_zero, List.set_cons_succ] at S
      have lj := sumR_len (xs := low) (ys := easR t q)
      generalize sumR low (easR t q) = js at S hz lj
      refine q_app S (k := 1) (ds := [dints R0, dints low, dints R2, dints R3]) (M2 := [pmc p4, .lst [dints R0, dints low, dints R2, dints R3]]) (d := dints js) (ev_var (r := .cel 1) rfl) (ev_var (r := rints js) rfl) rfl rfl (Nat.le_of_ble_eq_true rfl) ?_
      intro F As σ H S
      try simp only [List.set_cons_zero, List.set_cons_succ] at S
      have S : Sta K B F As [pmc p4, .lst [dints R0, dints low, dints R2, dints R3, dints js]] σ _ H := S
      refine q_set S (ev_drawC (p := p4) (m := t) (Ms := [.lst [dints R0, dints low, dints R2, dints R3, dints js]]) (ea_cons (ev_var rfl) (ea_cons (ev_var (r := rint t) rfl) ea_nil)) (by omega) (by omega)) ?_
      intro F As σ H S
      try simp only [List.set_cons_zero, List.set_cons_succ] at S
      generalize (draw p4 t).1 = a at S hz r2
      generalize (draw p4 t).2 = p5 at S hz
      have la : ∀ w, (rwA js a w).length = js.length := fun w => rwA_len r2.1 (by omega)
      have cat : ∀ (w : Int) {M : List MC} {E : List (Option Rv)} {te : TE}, E[11]? = some (some (rints js)) → E[12]? = some (some (rint a)) → (∀ {M : List MC} {E : List (Option Rv)}, E[11]? = some (some (rints js)) → E[12]? = some (some (rint a)) → EvD K te M E M (rint (gI js a + w))) → EvD K (tOp rCat (tOp rCat (tSl (rSlL K) (tVar 11) tNoPart (tPart (tVar 12))) (tLst (tCons te tNil))) (tSl (rSlL K) (tVar 11) (tPart (tOp (rI0 fun i j => .int (i + j)) (tVar 12) (tC (.int 1)))) tNoPart)) M E M (rints (rwA js a w)) := fun w {M E te} z11 z12 hte => by
        have l := la w
        unfold rwA at l ⊢
        rw [List.length_append, List.length_append, List.length_singleton] at l
        exact ev_is (ev_op (ev_is (ev_op (ev_sliceI (ns := js) (ev_var z11) eo_none (eo_some (ev_var z12)) (.inl rfl)) (ev_lst (ds := [.int (gI js a + w)]) (ea_cons (hte z11 z12) ea_nil) rfl (Nat.le_of_ble_eq_true rfl)) (od_cat (.inl rfl) (.inl rfl) (by rw [List.length_map]; show _ + 1 ≤ _; omega))) (rints_cat _ [gI js a + w])) (ev_sliceI (ns := js) (ev_var z11) (eo_some (ev_op (ev_var z12) ev_int od_int)) eo_none (.inl rfl)) (od_cat (.inl rfl) (.inl rfl) (by rw [List.length_map, List.length_map, List.length_append, List.length_singleton]; omega))) (rints_cat _ _)
      refine q_app S (k := 1) (ds := [dints R0, dints low, dints R2, dints R3, dints js]) (M2 := [pmc p5, .lst [dints R0, dints low, dints R2, dints R3, dints js]]) (d := dints (rwA js a (-1))) (ev_var (r := .cel 1) rfl) (cat (-1) rfl rfl (fun z11 z12 => ev_is (ev_op (ev_op (ev_var z11) (ev_var z12) (od_ixI (.inl rfl) r2.1 (by omega))) ev_int od_int) (show rint (gI js a - 1) = rint (gI js a + -1) from rfl))) rfl rfl (Nat.le_of_ble_eq_true rfl) ?_
      intro F As σ H S
      try simp only [List.set_cons_zero, List.set_cons_succ] at S
      have S : Sta K B F As [pmc p5, .lst [dints R0, dints low, dints R2, dints R3, dints js, dints (rwA js a (-1))]] σ _ H := S
      refine s_app S (k := 1) (ds := [dints R0, dints low, dints R2, dints R3, dints js, dints (rwA js a (-1))]) (M2 := [pmc p5, .lst [dints R0, dints low, dints R2, dints R3, dints js, dints (rwA js a (-1))]]) (d := dints (rwA js a 5)) (ev_var (r := .cel 1) rfl) (cat 5 rfl rfl (fun z11 z12 => ev_op (ev_op (ev_var z11) (ev_var z12) (od_ixI (.inl rfl) r2.1 (by omega))) ev_int od_int)) rfl rfl (Nat.le_of_ble_eq_true rfl) ?_
      intro F As σ H S
      rw [← hz] at k
      exact k _ _ _ _ (S.weak ⟨rfl, rfl, rfl, rfl, rfl, rfl, rfl, trivial⟩)
    · intro hc De k F As σ H S
      have hc := of_decide_eq_false hc
      rw [if_pos (by
        by_cases e : cs = []
        · exact e
        · exact absurd e hc)] at hz
      rw [← hz] at k
      refine s_next S ?_
      intro F As σ H S
      exact k _ _ _ _ (S.weak ⟨rfl, rfl, rfl, rfl, rfl, rfl, rfl, trivial⟩)
    intro F As σ H S
    have hz3 : z.2.length ≤ 3 := by
      rw [← hz]
      split <;> exact Nat.le_of_ble_eq_true rfl
    clear hz
    obtain ⟨p6, ZZ⟩ := z
    dsimp only at S post hz3
    have rep : ∀ (w : Int) {M M1 : List MC} {E : List (Option Rv)} {te : TE}, EvD K te M E M1 (rint w) → (∀ {M : List MC}, EvD K (tVar 1) M E M (rint t)) → EvD K (tOp rRep (tLst (tCons te tNil)) (tVar 1)) M E M1 (rints (List.replicate t.toNat w)) := fun w {M M1 E te} hte z1 => ev_is (ev_op (ev_lst (ds := [.int w]) (ea_cons hte ea_nil) rfl (Nat.le_of_ble_eq_true rfl)) z1 (od_rep (ds := [.int w]) (.inl rfl) ⟨by omega, by omega⟩ (by show 1 * _ ≤ _; omega))) (by
      show Rv.dat (.lst _) = Rv.dat (.lst _)
      rw [rep_one, List.map_replicate])
    refine q_app S (k := 1) (ds := [dints R0, dints low, dints R2, dints R3] ++ ZZ.map dints) (M2 := [pmc p6, .lst ([dints R0, dints low, dints R2, dints R3] ++ ZZ.map dints)]) (d := dints (List.replicate t.toNat m)) (ev_var (r := .cel 1) rfl) (rep m (ev_var rfl) (ev_var rfl)) rfl rfl (by rw [List.length_append, List.length_map]; show 4 + _ < _; omega) ?_
    intro F As σ H S
    try simp only [List.set_cons_zero, List.set_cons_succ] at S
    refine q_app S (k := 1) (ds := ([dints R0, dints low, dints R2, dints R3] ++ ZZ.map dints) ++ [dints (List.replicate t.toNat m)]) (M2 := [pmc (draw p6 3).2, .lst (([dints R0, dints low, dints R2, dints R3] ++ ZZ.map dints) ++ [dints (List.replicate t.toNat m)])]) (d := dints (List.replicate t.toNat (0 - 1 - (draw p6 3).1))) (ev_var (r := .cel 1) rfl) (rep (0 - 1 - (draw p6 3).1) (ev_op (ev_op ev_int ev_int od_int) (ev_drawC (p := p6) (m := 3) (Ms := [.lst (([dints R0, dints low, dints R2, dints R3] ++ ZZ.map dints) ++ [dints (List.replicate t.toNat m)])]) (ea_cons (ev_var rfl) (ea_cons ev_int ea_nil)) (by omega) (by omega)) od_int) (ev_var rfl)) rfl rfl (by rw [List.length_append, List.length_append, List.length_map]; show 4 + _ + 1 < _; omega) ?_
    intro F As σ H S
    try simp only [List.set_cons_zero, List.set_cons_succ] at S
    refine s_retF S hB (k := 1) (ev_var (r := .cel 1) rfl) rfl rfl (by rw [hA]; exact Nat.le_refl _) ?_
    intro v F As σ E H S r
    have e : ((([dints R0, dints low, dints R2, dints R3] ++ ZZ.map dints) ++ [dints (List.replicate t.toNat m)]) ++ [dints (List.replicate t.toNat (0 - 1 - (draw p6 3).1))]) = (([R0, low, R2, R3] ++ ZZ) ++ [List.replicate t.toNat m, List.replicate t.toNat (0 - 1 - (draw p6 3).1)]).map dints := by
      rw [List.map_append, List.map_append, List.append_assoc]; rfl
    have r : R K F (.lst ((([dints R0, dints low, dints R2, dints R3] ++ ZZ.map dints) ++ [dints (List.replicate t.toNat m)]) ++ [dints (List.replicate t.toNat (0 - 1 - (draw p6 3).1))])) v := r
    rw [e] at r
    exact post _ _ _ _ _ _ _ S rfl r
end K09
set_option Elab.async false
set_option linter.all false
set_option maxRecDepth 100000
set_option maxHeartbeats 4000000
namespace K09
open PySem L2 DL
/-! ### the steps: one rule an expression, by its reading's head -/
local macro_rules | `(tactic| wtm_at "ev") => `(tactic| first
  | exact ev_var rfl
  | exact ev_int
  | exact ev_non
  | exact ev_bl
  | exact ev_str
  | exact ea_nil
  | with_reducible apply ea_cons
  | ((with_reducible refine' ev_isi ?a ?b ?c); (case' a => repeat' wtm_at "ev"); (case' b => exact rfl); (case' c => exact rfl))
  | with_reducible apply ev_cb
  | with_reducible apply ev_op
  | with_reducible apply ev_un
  | with_reducible apply et_test
  | with_reducible apply et_B
  | with_reducible apply et_not
  | with_reducible apply ev_isN
  | with_reducible apply ev_notN
  | with_reducible apply ev_notV
  | with_reducible apply et_and
  | with_reducible apply et_or
  | with_reducible apply ev_andV
  | with_reducible apply ev_orV
  | with_reducible apply ev_ifI
  | with_reducible apply ev_ifD
  | ((with_reducible refine' ev_dnotin ?a ?b ?c ?d); (case' a => repeat' wtm_at "ev"); (case' b => repeat' wtm_at "ev"); (case' c => exact rfl); (case' d => first | exact .inl rfl | exact .inr ⟨_, rfl, rfl⟩))
  | ((with_reducible refine' ev_din ?a ?b ?c ?d); (case' a => repeat' wtm_at "ev"); (case' b => repeat' wtm_at "ev"); (case' c => exact rfl); (case' d => first | exact .inl rfl | exact .inr ⟨_, rfl, rfl⟩))
  | with_reducible apply ev_lcLAI
  | with_reducible apply ev_lcLII
  | with_reducible apply ev_lcLA
  | with_reducible apply ev_lcLI
  | with_reducible apply ev_lcRAI
  | with_reducible apply ev_lcRI
  | with_reducible apply ev_lcRA
  | with_reducible apply ev_lcR
  | exact et_yes
  | with_reducible intro _
  | exact od_int
  | exact od_bool
  | exact od_eqI
  | exact od_neI
  | exact od_eqS
  | exact od_neS
  | exact ud_neg
  | exact cd_abs
  | exact cd_max2
  | exact cd_min2
  | exact cd_int
  | exact cd_intB
  | exact cd_lenScr
  | exact cd_lenT
  | exact cd_lenI (.inl rfl)
  | exact cd_lenI (.inr ⟨_, rfl, rfl⟩)
  | exact cd_len (.inl rfl)
  | exact cd_len (.inr ⟨_, rfl, rfl⟩)
  | exact cd_lenD (.inl rfl)
  | exact cd_lenD (.inr ⟨_, rfl, rfl⟩)
  | exact cd_sum (.inl rfl)
  | exact cd_sorted (.inl rfl)
  | exact cd_list (.inl rfl)
  | exact cd_listT
  | exact eo_none
  | with_reducible apply eo_some
  | with_reducible apply ev_sliceScr
  | refine' ev_sliceI ?_ ?_ ?_ (.inl rfl)
  | with_reducible apply od_intC
  | with_reducible apply od_ixScr
  | refine' od_ixI (.inl rfl) ?_ ?_
  | refine' od_ixI (.inr ⟨_, rfl, rfl⟩) ?_ ?_
  | exact od_ixT rfl
  | exact od_inI (.inl rfl)
  | exact od_notinI (.inl rfl)
  | refine' od_cat (.inl rfl) (.inl rfl) ?_
  | ((with_reducible refine' ev_tup ?h ?r ?l); (case' h => repeat' wtm_at "ev"); (case' r => exact rfl); (case' l => exact Nat.le_of_ble_eq_true rfl))
  | (refine (show CMul _ _ from .inl ⟨?_, ?_⟩) <;> decide)
  | (refine (show CMul _ _ from .inr ⟨?_, ?_⟩) <;> decide)
  | (refine (show (_ : Prop) from ?_); assumption)
  | (refine (show CDiv _ _ from ⟨?_, ?_⟩) <;> omega)
  | (refine (show CPow _ _ from ⟨?_, ?_, ?_⟩) <;> decide)
  | omega
  | (simp only [Pz.len]; done)
  | (simp only [Pz.len, List.length_map, List.length_append, List.length_range, List.length_set, List.length_reverse]; omega))
/-! a statement's step: its values are reckoned, what is left is the way on -/
local macro_rules | `(tactic| wtm_at "st") => `(tactic| first
  | (refine' q_set (by assumption) ?h ?k; (case' h => repeat' wtm_at "ev"); (case' k => (intro _ _ _ _ _; try dsimp only)))
  | (refine' s_set (by assumption) ?h ?k; (case' h => repeat' wtm_at "ev"); (case' k => (intro _ _ _ _ _; try dsimp only)))
  | (refine' q_augS (by assumption) ?h1 ?h2 ?h3 ?r1 ?r2 ?s1 ?s2 ?k; (case' h1 => repeat' wtm_at "ev"); (case' h2 => repeat' wtm_at "ev"); (case' h3 => repeat' wtm_at "ev"); (case' r1 => exact rfl); (case' r2 => exact rfl); (case' s1 => try wtm_at "ev"); (case' s2 => try wtm_at "ev"); (case' k => (intro _ _ _ _ _; try dsimp only)))
  | (refine' s_augS (by assumption) ?h1 ?h2 ?h3 ?r1 ?r2 ?s1 ?s2 ?k; (case' h1 => repeat' wtm_at "ev"); (case' h2 => repeat' wtm_at "ev"); (case' h3 => repeat' wtm_at "ev"); (case' r1 => exact rfl); (case' r2 => exact rfl); (case' s1 => try wtm_at "ev"); (case' s2 => try wtm_at "ev"); (case' k => (intro _ _ _ _ _; try dsimp only)))
  | (refine' q_setLI (by assumption) ?h ?h1 ?h2 ?r1 ?s1 ?s2 ?k; (case' h => repeat' wtm_at "ev"); (case' h1 => repeat' wtm_at "ev"); (case' h2 => repeat' wtm_at "ev"); (case' r1 => exact rfl); (case' s1 => try wtm_at "ev"); (case' s2 => try wtm_at "ev"); (case' k => (intro _ _ _ _ _; try dsimp only)))
  | (refine' q_setL (by assumption) ?h ?h1 ?h2 ?r1 ?s1 ?s2 ?k; (case' h => repeat' wtm_at "ev"); (case' h1 => repeat' wtm_at "ev"); (case' h2 => repeat' wtm_at "ev"); (case' r1 => exact rfl); (case' s1 => try wtm_at "ev"); (case' s2 => try wtm_at "ev"); (case' k => (intro _ _ _ _ _; try dsimp only)))
  | (refine' s_setLI (by assumption) ?h ?h1 ?h2 ?r1 ?s1 ?s2 ?k; (case' h => repeat' wtm_at "ev"); (case' h1 => repeat' wtm_at "ev"); (case' h2 => repeat' wtm_at "ev"); (case' r1 => exact rfl); (case' s1 => try wtm_at "ev"); (case' s2 => try wtm_at "ev"); (case' k => (intro _ _ _ _ _; try dsimp only)))
  | (refine' s_setL (by assumption) ?h ?h1 ?h2 ?r1 ?s1 ?s2 ?k; (case' h => repeat' wtm_at "ev"); (case' h1 => repeat' wtm_at "ev"); (case' h2 => repeat' wtm_at "ev"); (case' r1 => exact rfl); (case' s1 => try wtm_at "ev"); (case' s2 => try wtm_at "ev"); (case' k => (intro _ _ _ _ _; try dsimp only)))
  | (refine' q_appI (by assumption) ?h1 ?h ?r1 ?r2 ?s ?k; (case' h1 => repeat' wtm_at "ev"); (case' h => repeat' wtm_at "ev"); (case' r1 => exact rfl); (case' r2 => exact rfl); (case' s => try wtm_at "ev"); (case' k => (intro _ _ _ _ _; try dsimp only)))
  | (refine' q_app (by assumption) ?h1 ?h ?r1 ?r2 ?s ?k; (case' h1 => repeat' wtm_at "ev"); (case' h => repeat' wtm_at "ev"); (case' r1 => exact rfl); (case' r2 => exact rfl); (case' s => try wtm_at "ev"); (case' k => (intro _ _ _ _ _; try dsimp only)))
  | (refine' s_appI (by assumption) ?h1 ?h ?r1 ?r2 ?s ?k; (case' h1 => repeat' wtm_at "ev"); (case' h => repeat' wtm_at "ev"); (case' r1 => exact rfl); (case' r2 => exact rfl); (case' s => try wtm_at "ev"); (case' k => (intro _ _ _ _ _; try dsimp only)))
  | (refine' s_app (by assumption) ?h1 ?h ?r1 ?r2 ?s ?k; (case' h1 => repeat' wtm_at "ev"); (case' h => repeat' wtm_at "ev"); (case' r1 => exact rfl); (case' r2 => exact rfl); (case' s => try wtm_at "ev"); (case' k => (intro _ _ _ _ _; try dsimp only)))
  | (refine' q_dput (by assumption) ?h ?h1 ?h2 ?r1 ?r2 ?s ?k; (case' h => repeat' wtm_at "ev"); (case' h1 => repeat' wtm_at "ev"); (case' h2 => repeat' wtm_at "ev"); (case' r1 => exact rfl); (case' r2 => exact rfl); (case' s => try wtm_at "ev"); (case' k => (intro _ _ _ _ _; try dsimp only)))
  | (refine' s_dput (by assumption) ?h ?h1 ?h2 ?r1 ?r2 ?s ?k; (case' h => repeat' wtm_at "ev"); (case' h1 => repeat' wtm_at "ev"); (case' h2 => repeat' wtm_at "ev"); (case' r1 => exact rfl); (case' r2 => exact rfl); (case' s => try wtm_at "ev"); (case' k => (intro _ _ _ _ _; try dsimp only)))
  | (refine' q_tup2 (by assumption) ?h ?k; (case' h => repeat' wtm_at "ev"); (case' k => (intro _ _ _ _ _; try dsimp only)))
  | (refine' q_drop (by assumption) ?h ?k; (case' h => repeat' wtm_at "ev"); (case' k => (intro _ _ _ _ _; try dsimp only)))
  | (refine' q_if (by assumption) ?h ?k1 ?k2; (case' h => repeat' wtm_at "ev"))
  | (refine' s_if (by assumption) ?h ?k1 ?k2; (case' h => repeat' wtm_at "ev"))
  | (refine' s_ret (by assumption) ?h ?k; (case' h => repeat' wtm_at "ev"); (case' k => (intro _ _ _ _ _ _ _; try dsimp only)))
  | (refine' q_ret (by assumption) ?h ?k; (case' h => repeat' wtm_at "ev"); (case' k => (intro _ _ _ _ _ _ _; try dsimp only)))
  | ((with_reducible refine' s_next (by assumption) ?k); (case' k => (intro _ _ _ _ _; try dsimp only)))
  | (with_reducible refine q_next ?_))

theorem rem_sort2 {e : Int} {l : List Int} (h : e ∈ l) : (remI e (sortI l)).Perm (remI e l) :=
  ((remI_perm (mem_sortI.mpr h)).trans ((sortI_perm l).trans (remI_perm h).symm)).cons_inv
theorem plain_optP {o : Option (Int × Int)} (n : Nat) : Plain (n + 2) (optP o) := by
  cases o with
  | none => trivial
  | some q => exact Plain.pair n q
def ph_one (ad : Ad) : List MC → List Rv → List MC → Out → Prop := fun M rs M' o => ∃ t bs ps row, M = [] ∧ rs = [.dat (stkD ad t bs ps), rint t, rints bs, rints ps, rints row] ∧ (1 ≤ t ∧ t ≤ 60) ∧ Sz t bs ∧ Sz t ps ∧ bs.length < 64 ∧ ps.length < 64 ∧ row.length = t.toNat ∧ M' = [] ∧ o = .ret (.bl true)
abbrev sp__law_k09_one (K : PySem.W.Frag) (ad : Ad) : Sp := FSp K (ph_one ad)
theorem ok__law_k09_one {P : Program} {w : World} {K : PySem.W.Frag} {mg : Str → Option Value} {base : Heap} {ad : Ad} {fd : Fd} (T : Txt K mg w ad fd) : FnOk P w K mg base CX0 8 ad.a__law_k09_one fd.d__law_k09_one ["stock", "top", "bores", "pins", "row"] (sp__law_k09_one K ad) := by
  have G_Stock_give := ok_Stock_give (P := P) (base := base) T
  have b_Stock_give := T.F_Stock_give.binds (ps := ["self", "pin", "bore"]) fun _ _ _ _ _ _ us hl => match us, hl with | [_, _, _], _ => rfl
  have G_Stock_skyline := ok_Stock_skyline (P := P) (base := base) T
  have b_Stock_skyline := T.F_Stock_skyline.binds (ps := ["self"]) fun _ _ _ _ _ _ us hl => match us, hl with | [_], _ => rfl
  have G__law_couples := ok__law_couples (P := P) (base := base) T
  have b__law_couples := T.F__law_couples.binds (ps := ["bores", "pins"]) fun _ _ _ _ _ _ us hl => match us, hl with | [_, _], _ => rfl
  have G__law_k09_keeps := ok__law_k09_keeps (P := P) (base := base) T
  have b__law_k09_keeps := T.F__law_k09_keeps.binds (ps := ["top", "bores", "pins", "pair", "row"]) fun _ _ _ _ _ _ us hl => match us, hl with | [_, _, _, _, _], _ => rfl
  have G__law_matches := ok__law_matches (P := P) (base := base) T 5
  have b__law_matches := T.F__law_matches.binds (ps := ["answer", "due"]) fun _ _ _ _ _ _ us hl => match us, hl with | [_, _], _ => rfl
  have G__law_step := ok__law_step (P := P) (base := base) T
  have b__law_step := T.F__law_step.binds (ps := ["top", "bores", "pins", "row"]) fun _ _ _ _ _ _ us hl => match us, hl with | [_, _, _, _], _ => rfl
  have G__law_within := ok__law_within (P := P) (base := base) T
  have b__law_within := T.F__law_within.binds (ps := ["row", "other"]) fun _ _ _ _ _ _ us hl => match us, hl with | [_, _], _ => rfl
  have G_step := ok_step (P := P) (base := base) T
  have b_step := T.F_step.binds (ps := ["stock", "row"]) fun _ _ _ _ _ _ us hl => match us, hl with | [_, _], _ => rfl
  refine L2.Fun.ok (k := 7) T.F__law_k09_one sc__law_k09_one (fun vs H Q E h => ?_) (fun cdv A outer s H vs Q E hr h => ?_)
  · exact h.len fun M rs M' o ⟨_, _, _, _, _, e, _⟩ => by rw [e]; rfl
  · have hu := hu_of hr
    refine ⟨_, (pss_cons (ps_set (i := 5) sc__law_k09_one.nd rfl (by first | exact Or.inl rfl | exact Or.inr rfl) (pe_callTy (call_listK (K := K) rfl) (by rfl) T.n_list (by decide +kernel) (pa_cons (pv 4) pa_nil)))
  (pss_cons (ps_set (i := 6) sc__law_k09_one.nd rfl (by first | exact Or.inl rfl | exact Or.inr rfl) (pe_call G_step (hr.mono (by first | decide | omega)) rfl T.g_step T.F_step.kp b_step .nil pass0 (pa_cons (pv 0) (pa_cons (pv 5) pa_nil))))
  (pss_cons (ps_set (i := 7) sc__law_k09_one.nd rfl (by first | exact Or.inl rfl | exact Or.inr rfl) (pe_call G__law_step (hr.mono (by first | decide | omega)) rfl T.g__law_step T.F__law_step.kp b__law_step .nil pass0 (pa_cons (pv 1) (pa_cons (pv 2) (pa_cons (pv 3) (pa_cons (pv 4) pa_nil))))))
  (pss_cons (ps_if (PW.pt (pw_or (pt_not (pt_val (pe_call G__law_matches (hr.mono (by first | decide | omega)) rfl T.g__law_matches T.F__law_matches.kp b__law_matches .nil pass0 (pa_cons (pv 6) (pa_cons (pv 7) pa_nil))))) (pw_or1 (pt_cmpR (op_neDK (K := K) hr.units rfl) (pv 5) (pv 4) (nomark _))))) (pss_one (ps_ret (pe_bl))) pss_nil)
  (pss_cons (ps_setLc (i := 8) rfl sc__law_k09_one.nd rfl rfl (sw_true rfl rfl rfl (by decide +kernel)) (pi_listK (K := K) rfl (pe_call G__law_couples (hr.mono (by first | decide | omega)) rfl T.g__law_couples T.F__law_couples.kp b__law_couples .nil pass0 (pa_cons (pv 2) (pa_cons (pv 3) pa_nil)))) (blkOk_by (own := [("pair", 9)]) (N := N__law_k09_one) (sc := defScope s__law_k09_one) (by decide +kernel)) (fun _ _ _ _ _ => (pg_name (i := 9) sc__law_k09_one.nd rfl (by first | exact Or.inl rfl | exact Or.inr rfl))) (fun _ _ _ _ _ => (pts_one (pt_val (pe_call G__law_k09_keeps (hr.mono (by first | decide | omega)) rfl T.g__law_k09_keeps T.F__law_k09_keeps.kp b__law_k09_keeps .nil pass0 (pa_cons (pv 1) (pa_cons (pv 2) (pa_cons (pv 3) (pa_cons (pv 9) (pa_cons (pv 4) pa_nil))))))))) (fun _ _ _ _ _ => (pv 9)))
  (pss_cons (ps_if (pt_cmp (pc_isN (pv 7))) (pss_one (ps_ret (pe_cmpR op_eq (pe_callB (call_lenK (K := K) rfl) (by rfl) T.n_len (by decide +kernel) (pa_cons (pv 8) pa_nil)) (pe_int) (nomark _)))) pss_nil)
  (pss_cons (ps_set (i := 10) sc__law_k09_one.nd rfl (by first | exact Or.inl rfl | exact Or.inr rfl) (pe_meth (pv 0) T.cl_Stock T.m_Stock_give G_Stock_give (hr.mono (by decide)) b_Stock_give .nil passN (pa_cons (pe_ix (ix_tupK (K := K) rfl) (pv 6) (pe_int) (fun _ _ => rfl)) (pa_cons (pe_ix (ix_tupK (K := K) rfl) (pv 6) (pe_int) (fun _ _ => rfl)) pa_nil))))
  (pss_one (ps_ret ((pe_and (pe_cmpR (op_inDK (K := K) (unit5 hr) rfl) (pv 6) (pv 8) (by rfl)) (pe_and (pe_call G__law_within (hr.mono (by first | decide | omega)) rfl T.g__law_within T.F__law_within.kp b__law_within .nil pass0 (pa_cons (pe_meth0 (pv 10) T.cl_Stock T.m_Stock_skyline G_Stock_skyline (hr.mono (by decide)) b_Stock_skyline .nil pass0) (pa_cons (pv 4) pa_nil))) (pe_one (pe_call G__law_matches (hr.mono (by first | decide | omega)) rfl T.g__law_matches T.F__law_matches.kp b__law_matches .nil pass0 (pa_cons (pe_call G_step (hr.mono (by first | decide | omega)) rfl T.g_step T.F_step.kp b_step .nil pass0 (pa_cons (pv 0) (pa_cons (pe_callTy (call_tupleK (K := K) rfl) (by rfl) T.n_tuple (by decide +kernel) (pa_cons (pv 4) pa_nil)) pa_nil))) (pa_cons (pv 7) pa_nil)))))))))))))))), ?_⟩
    try dsimp only [cxOf, Cx.nox, Cx.wish, List.map]
    refine h.reading fun F As M rs M' o hΦ hL B S hB hA post => ?_
    obtain ⟨t, bs, ps, row, rfl, rfl, ht, sb, sp, lb, lp, lr, rfl, rfl⟩ := hΦ
    dsimp only at post
    have v0 : ∀ {M : List MC} {E : List (Option Rv)}, E[0]? = some (some (.dat (stkD ad t bs ps))) → EvD K (tVar 0) M E M (.dat (stkD ad t bs ps)) := fun z => ev_var z
    refine q_set S (r := rints row) (M' := []) (ev_cb (ea_cons (ev_var (r := rints row) rfl) ea_nil) (cd_list (ds := row.map D.int) (.inl rfl))) ?_
    intro F As σ H S
    try simp only [List.set_cons_zero, List.set_cons_succ] at S
    refine q_set S (r := .dat (optP (stepV t bs ps row))) (M' := []) (ev_call0 (ea_cons (v0 rfl) (ea_cons (ev_var (r := rints row) rfl) ea_nil)) (by intro z; cases z) ⟨t, bs, ps, row, _, rfl, rfl, .inl rfl, ht, sb, sp, by omega, by omega, lr, rfl, rfl⟩) ?_
    intro F As σ H S
    try simp only [List.set_cons_zero, List.set_cons_succ] at S
    refine q_set S (r := .dat (optP (stepV t bs ps row))) (M' := []) (ev_call0 (ea_cons (ev_var (r := rint t) rfl) (ea_cons (ev_var (r := rints bs) rfl) (ea_cons (ev_var (r := rints ps) rfl) (ea_cons (ev_var (r := rints row) rfl) ea_nil)))) (by intro z; cases z) ⟨t, bs, ps, row, rfl, rfl, ht, sb, sp, by omega, by omega, lr, rfl, rfl⟩) ?_
    intro F As σ H S
    try simp only [List.set_cons_zero, List.set_cons_succ] at S
    have some1 := fun q => step_some (q := q) (row := row) ht.1 sb sp
    have none1 := step_none (row := row) ht.1 sb sp
    generalize hst : stepV t bs ps row = st at S some1 none1
    refine q_if S (b := false) (M' := []) (et_or2 (et_not (b := true) (et_B (ev_match (n := 4) (ea_cons (ev_var (r := .dat (optP st)) rfl) (ea_cons (ev_var (r := .dat (optP st)) rfl) ea_nil)) (plain_optP 3)))) (et_test (ev_op (ev_var (r := rints row) rfl) (ev_var (r := rints row) rfl) (od_neL rfl)))) (fun hc => by cases hc) ?_
    intro _ F As σ H S
    refine s_next S ?_
    intro F As σ H S
    have lg : (goL bs ps).length ≤ 4096 := Nat.le_trans goL_len (Nat.le_trans (Nat.mul_le_mul (show ps.length ≤ 64 by omega) (show bs.length ≤ 64 by omega)) (Nat.le_of_ble_eq_true rfl))
    refine q_set S (r := .dat (pairsD ((goL bs ps).filter (kepB t bs ps row)))) (M' := []) (ev_lcP (F := goL bs ps) (kepB t bs ps row) pairD (ev_call0 (d := pairsD (goL bs ps)) (ea_cons (ev_var (r := rints bs) rfl) (ea_cons (ev_var (r := rints ps) rfl) ea_nil)) (by intro z; cases z) ⟨bs, ps, rfl, rfl, lb, lp, rfl, rfl⟩) (by omega) (fun q hq => et_B (ev_call0 (ea_cons (ev_var (r := rint t) rfl) (ea_cons (ev_var (r := rints bs) rfl) (ea_cons (ev_var (r := rints ps) rfl) (ea_cons (ev_var (r := .dat (pairD q)) rfl) (ea_cons (ev_var (r := rints row) rfl) ea_nil))))) (by intro z; cases z) ⟨t, bs, ps, q, row, rfl, rfl, ht, by omega, by omega, lr, (goL_mem.mp hq).1, (goL_mem.mp hq).2.1, rfl, rfl⟩)) (fun q hq _ => ev_var rfl)) ?_
    intro F As σ H S
    try simp only [List.set_cons_zero, List.set_cons_succ] at S
    cases st with
    | none =>
      have e : (goL bs ps).filter (kepB t bs ps row) = [] := List.filter_eq_nil_iff.mpr fun q hq hk => by
        obtain ⟨h1, h2, h3⟩ := goL_mem.mp hq
        exact none1 rfl h1 h2 h3 (wthB_iff.mp hk)
      rw [e] at S
      refine q_if S (b := true) (et_B (ev_is (ev_isN (ev_var (r := .dat .non) rfl)) rfl)) ?_ (fun hc => by cases hc)
      intro _ F As σ H S
      refine s_ret S (r := rbl true) (M' := []) (ev_is (ev_op (ev_cb (ea_cons (ev_var (r := .dat (pairsD [])) rfl) ea_nil) (cd_len (ds := []) (.inl rfl))) ev_int od_eqI) rfl) ?_
      intro v F As σ H S r
      exact post _ _ _ _ _ _ _ S rfl r
    | some q =>
      obtain ⟨h1, h2, h3, h4⟩ := some1 q rfl
      have l1 := rem_len h1
      have l2 := rem_len h2
      refine q_if S (b := false) (et_B (ev_is (ev_isN (ev_var (r := .dat (pairD q)) rfl)) rfl)) (fun hc => by cases hc) ?_
      intro _ F As σ H S
      refine s_next S ?_
      intro F As σ H S
      have ix : ∀ {M : List MC} {E : List (Option Rv)}, E[6]? = some (some (.dat (pairD q))) → EvD K (tOp (rIxT K) (tVar 6) (tC (.int 0))) M E M (rint q.1) ∧ EvD K (tOp (rIxT K) (tVar 6) (tC (.int 1))) M E M (rint q.2) := fun z => ⟨ev_op (ev_var z) ev_int (od_ixT (d := .int q.1) rfl), ev_op (ev_var z) ev_int (od_ixT (d := .int q.2) rfl)⟩
      refine q_set S (r := .dat (stkD ad t (remI q.2 bs) (remI q.1 ps))) (M' := []) (ev_is (ev_sgive (v0 rfl) (ea_cons (ix rfl).1 (ea_cons (ix rfl).2 ea_nil)) ht (by omega) (by omega) h1 h2 h3) (by rw [stk_perm (rem_sort2 h2) (rem_sort2 h1)])) ?_
      intro F As σ H S
      try simp only [List.set_cons_zero, List.set_cons_succ] at S
      have ls := sky_len (t := t) (bs := remI q.2 bs) (ps := remI q.1 ps)
      refine s_ret S (r := rbl true) (M' := []) (ev_and2 (ev_is (ev_op (ev_var (r := .dat (pairD q)) rfl) (ev_var (r := .dat (pairsD ((goL bs ps).filter (kepB t bs ps row)))) rfl) od_inP) (by rw [decide_eq_true (List.mem_filter.mpr ⟨goL_mem.mpr ⟨h1, h2, h3⟩, wthB_iff.mpr h4⟩)])) (ev_and2 (ev_is (ev_call0 (d := .bl (wthB (skyR t (remI q.2 bs) (remI q.1 ps)) row)) (ea_cons (ev_ssky (ev_var (r := .dat (stkD ad t (remI q.2 bs) (remI q.1 ps))) rfl) ⟨by omega, by omega⟩ (rem_sz sb) (rem_sz sp)) (ea_cons (ev_var (r := rints row) rfl) ea_nil)) (by intro z; cases z) ⟨_, row, rfl, rfl, by omega, by omega, rfl, rfl⟩) (by rw [wthB_iff.mpr h4])) (ev_match (n := 4) (d := optP (some q)) (ea_cons (ev_call0 (ea_cons (v0 rfl) (ea_cons (ev_cb (ea_cons (ev_var (r := rints row) rfl) ea_nil) (cd_tuple (ds := row.map D.int) (.inl rfl))) ea_nil)) (by intro z; cases z) ⟨t, bs, ps, row, _, rfl, rfl, .inr rfl, ht, sb, sp, by omega, by omega, lr, rfl, by rw [hst]⟩) (ea_cons (ev_var rfl) ea_nil)) (plain_optP 3)))) ?_
      intro v F As σ H S r
      exact post _ _ _ _ _ _ _ S rfl r
/-! ### the great stock and the wide pair -/
theorem wide_sky {q : Nat} (k : Nat) (hk : k < 60) : gI (skyR 60 (List.replicate q 60 ++ [60]) (List.replicate (60 - q) 0 ++ [0])) (k : Int) = 0 := by
  rw [sky_at (by omega) (by omega)]
  have b0 : belV (List.replicate q 60 ++ [60]) ((k : Int) + 1) = 0 := by
    unfold belV
    rw [List.filter_eq_nil_iff.mpr fun z hz => by
      have : z = 60 := by
        rcases List.mem_append.mp hz with h | h
        · exact (List.mem_replicate.mp h).2
        · exact List.mem_singleton.mp h
      rw [decide_eq_true_eq]; omega]
    rfl
  have a0 : abvV (List.replicate (60 - q) 0 ++ [0]) ((k : Int) + 1) = 0 := by
    unfold abvV
    rw [List.filter_eq_nil_iff.mpr fun z hz => by
      have : z = 0 := by
        rcases List.mem_append.mp hz with h | h
        · exact (List.mem_replicate.mp h).2
        · exact List.mem_singleton.mp h
      rw [decide_eq_true_eq]; omega]
    rfl
  unfold wV
  rw [b0, a0]; rfl
theorem wide_b {q : Nat} : Sz 60 (List.replicate q 60 ++ [60]) ∧ ∀ z ∈ List.replicate q (60 : Int) ++ [60], z = 60 := by
  have h : ∀ z ∈ List.replicate q (60 : Int) ++ [60], z = 60 := fun z hz => by
    rcases List.mem_append.mp hz with h | h
    · exact (List.mem_replicate.mp h).2
    · exact List.mem_singleton.mp h
  exact ⟨fun z hz => by have := h z hz; omega, h⟩
theorem wide_p {q : Nat} : Sz 60 (List.replicate q 0 ++ [0]) ∧ ∀ z ∈ List.replicate q (0 : Int) ++ [0], z = 0 := by
  have h : ∀ z ∈ List.replicate q (0 : Int) ++ [0], z = 0 := fun z hz => by
    rcases List.mem_append.mp hz with h | h
    · exact (List.mem_replicate.mp h).2
    · exact List.mem_singleton.mp h
  exact ⟨fun z hz => by have := h z hz; omega, h⟩
theorem wV_wide {q : Nat} (k : Nat) (hk : k < 60) : wV (List.replicate q 60 ++ [60]) (List.replicate (60 - q) 0 ++ [0]) ((k : Int) + 1) = 0 := by
  rw [← sky_at (t := 60) (by omega) (by omega)]
  exact wide_sky k hk
theorem rep_gI (k n : Nat) (z : Int) (h : k < n) : gI (List.replicate n z) (k : Int) = z := by
  show (List.replicate n z).getD k 0 = z
  rw [List.getD_eq_getElem?_getD, List.getElem?_replicate, if_pos h]; rfl
theorem wide_step {q : Nat} : stepV 60 (List.replicate q 60 ++ [60]) (List.replicate (60 - q) 0 ++ [0]) (List.replicate 60 0) = some (0, 60) := by
  have mb : (60 : Int) ∈ List.replicate q (60 : Int) ++ [60] := List.mem_append_right _ (List.mem_singleton_self _)
  have mp : (0 : Int) ∈ List.replicate (60 - q) (0 : Int) ++ [0] := List.mem_append_right _ (List.mem_singleton_self _)
  cases h : stepV 60 (List.replicate q 60 ++ [60]) (List.replicate (60 - q) 0 ++ [0]) (List.replicate 60 0) with
  | none =>
    refine absurd ?_ (step_none (by omega) wide_b.1 wide_p.1 h mp mb (by omega))
    rw [keep_iff (by omega) mp mb (by omega)]
    intro k hk
    have hk : k < 60 := hk
    rw [wV_wide k hk, if_pos ⟨by omega, by omega⟩, rep_gI k 60 0 hk]
    omega
  | some r =>
    obtain ⟨h1, h2, _⟩ := step_some (by omega) wide_b.1 wide_p.1 h
    have e1 := wide_p.2 _ h1
    have e2 := wide_b.2 _ h2
    rw [← e1, ← e2]
theorem wide_none {q : Nat} : stepV 60 (List.replicate q 60 ++ [60]) (List.replicate (60 - q) 0 ++ [0]) (List.replicate 59 0 ++ [-1]) = none := by
  have mb : (60 : Int) ∈ List.replicate q (60 : Int) ++ [60] := List.mem_append_right _ (List.mem_singleton_self _)
  have mp : (0 : Int) ∈ List.replicate (60 - q) (0 : Int) ++ [0] := List.mem_append_right _ (List.mem_singleton_self _)
  cases h : stepV 60 (List.replicate q 60 ++ [60]) (List.replicate (60 - q) 0 ++ [0]) (List.replicate 59 0 ++ [-1]) with
  | none => rfl
  | some r =>
    obtain ⟨h1, h2, _, h4⟩ := step_some (by omega) wide_b.1 wide_p.1 h
    have e1 := wide_p.2 _ h1
    have e2 := wide_b.2 _ h2
    rw [e1, e2] at h4
    have := (keep_iff (by omega) mp mb (by omega)).mp h4 59 (Nat.le_of_ble_eq_true rfl)
    rw [wV_wide 59 (by omega), if_pos ⟨by omega, by omega⟩] at this
    have e : gI (List.replicate 59 (0 : Int) ++ [-1]) ((59 : Nat) : Int) = -1 := rfl
    rw [e] at this
    omega
def grtP (p : Pz) : Pz :=
  pAft (draw (draw (dsk (draw (draw p 60).2 59).2 (1 + (draw p 60).1) (1 + (draw (draw p 60).2 59).1).toNat (60 - (1 + (draw (draw p 60).2 59).1)).toNat).1 (1 + (draw p 60).1 + 1)).2 (1 + (draw p 60).1 + 1)).2 2 (1 + (draw p 60).1).toNat
def ph_grt : List MC → List Rv → List MC → Out → Prop := fun M rs M' o => ∃ p, M = [pmc p] ∧ rs = [.cel 0] ∧ M' = [pmc (grtP p)] ∧ o = .ret (.bl true)
abbrev sp__law_k09_great (K : PySem.W.Frag) : Sp := FSp K ph_grt
theorem ok__law_k09_great {P : Program} {w : World} {K : PySem.W.Frag} {mg : Str → Option Value} {base : Heap} {ad : Ad} {fd : Fd} (T : Txt K mg w ad fd) : FnOk P w K mg base CX0 8 ad.a__law_k09_great fd.d__law_k09_great ["purse"] (sp__law_k09_great K) := by
  have G_Stock___init__ := ok_Stock___init__ (P := P) (base := base) T
  have b_Stock___init__ := T.F_Stock___init__.binds (ps := ["self", "top", "bores", "pins"]) fun _ _ _ _ _ _ us hl => match us, hl with | [_, _, _, _], _ => rfl
  have G_Stock_come := ok_Stock_come (P := P) (base := base) T
  have b_Stock_come := T.F_Stock_come.binds (ps := ["self", "bore", "pin"]) fun _ _ _ _ _ _ us hl => match us, hl with | [_, _, _], _ => rfl
  have G__law_draw := ok__law_draw (P := P) (base := base) T
  have b__law_draw := T.F__law_draw.binds (ps := ["purse", "many"]) fun _ _ _ _ _ _ us hl => match us, hl with | [_, _], _ => rfl
  have G__law_drawn_stock := ok__law_drawn_stock (P := P) (base := base) T
  have b__law_drawn_stock := T.F__law_drawn_stock.binds (ps := ["purse", "top", "q", "p"]) fun _ _ _ _ _ _ us hl => match us, hl with | [_, _, _, _], _ => rfl
  have G__law_matches := ok__law_matches (P := P) (base := base) T 5
  have b__law_matches := T.F__law_matches.binds (ps := ["answer", "due"]) fun _ _ _ _ _ _ us hl => match us, hl with | [_, _], _ => rfl
  have G__law_sky := ok__law_sky (P := P) (base := base) T
  have b__law_sky := T.F__law_sky.binds (ps := ["top", "bores", "pins"]) fun _ _ _ _ _ _ us hl => match us, hl with | [_, _, _], _ => rfl
  have G__law_step := ok__law_step (P := P) (base := base) T
  have b__law_step := T.F__law_step.binds (ps := ["top", "bores", "pins", "row"]) fun _ _ _ _ _ _ us hl => match us, hl with | [_, _, _, _], _ => rfl
  have G_step := ok_step (P := P) (base := base) T
  have b_step := T.F_step.binds (ps := ["stock", "row"]) fun _ _ _ _ _ _ us hl => match us, hl with | [_, _], _ => rfl
  refine L2.Fun.ok (k := 7) T.F__law_k09_great sc__law_k09_great (fun vs H Q E h => ?_) (fun cdv A outer s H vs Q E hr h => ?_)
  · exact h.len fun M rs M' o ⟨_, _, e, _⟩ => by rw [e]; rfl
  · have hu := hu_of hr
    refine ⟨_, (pss_cons (ps_set (i := 1) sc__law_k09_great.nd rfl (by first | exact Or.inl rfl | exact Or.inr rfl) (pe_op op_add (pe_int) (pe_call G__law_draw (hr.mono (by first | decide | omega)) rfl T.g__law_draw T.F__law_draw.kp b__law_draw .nil pass0 (pa_cons (pv 0) (pa_cons (pe_int) pa_nil)))))
  (pss_cons (ps_set (i := 2) sc__law_k09_great.nd rfl (by first | exact Or.inl rfl | exact Or.inr rfl) (pe_op op_add (pe_int) (pe_call G__law_draw (hr.mono (by first | decide | omega)) rfl T.g__law_draw T.F__law_draw.kp b__law_draw .nil pass0 (pa_cons (pv 0) (pa_cons (pe_int) pa_nil)))))
  (pss_cons (ps_asg (pe_call G__law_drawn_stock (hr.mono (by first | decide | omega)) rfl T.g__law_drawn_stock T.F__law_drawn_stock.kp b__law_drawn_stock .nil pass0 (pa_cons (pv 0) (pa_cons (pv 1) (pa_cons (pv 2) (pa_cons (pe_op op_sub (pe_int) (pv 2)) pa_nil))))) (pg_tupK (K := K) rfl rfl (pgs_cons (pg_name (i := 3) sc__law_k09_great.nd rfl (by first | exact Or.inl rfl | exact Or.inr rfl)) (pgs_cons (pg_name (i := 4) sc__law_k09_great.nd rfl (by first | exact Or.inl rfl | exact Or.inr rfl)) pgs_nil))))
  (pss_cons (ps_set (i := 5) sc__law_k09_great.nd rfl (by first | exact Or.inl rfl | exact Or.inr rfl) (pe_tup (pa_cons (pe_call G__law_draw (hr.mono (by first | decide | omega)) rfl T.g__law_draw T.F__law_draw.kp b__law_draw .nil pass0 (pa_cons (pv 0) (pa_cons (pe_op op_add (pv 1) (pe_int)) pa_nil))) (pa_cons (pe_call G__law_draw (hr.mono (by first | decide | omega)) rfl T.g__law_draw T.F__law_draw.kp b__law_draw .nil pass0 (pa_cons (pv 0) (pa_cons (pe_op op_add (pv 1) (pe_int)) pa_nil))) pa_nil))))
  (pss_cons (ps_set (i := 6) sc__law_k09_great.nd rfl (by first | exact Or.inl rfl | exact Or.inr rfl) (pe_meth (pe_make T.mk_Stock G_Stock___init__ (hr.mono (by first | decide | omega)) rfl T.g_Stock b_Stock___init__ .nil passN (pa_cons (pv 1) (pa_cons (pv 3) (pa_cons (pv 4) pa_nil)))) T.cl_Stock T.m_Stock_come G_Stock_come (hr.mono (by decide)) b_Stock_come .nil passN (pa_cons (pe_ix (ix_tupK (K := K) rfl) (pv 5) (pe_int) (fun _ _ => rfl)) (pa_cons (pe_ix (ix_tupK (K := K) rfl) (pv 5) (pe_int) (fun _ _ => rfl)) pa_nil))))
  (pss_cons (ps_set (i := 3) sc__law_k09_great.nd rfl (by first | exact Or.inl rfl | exact Or.inr rfl) (pe_op op_cat (pv 3) (pe_lst (pa_cons (pe_ix (ix_tupK (K := K) rfl) (pv 5) (pe_int) (fun _ _ => rfl)) pa_nil))))
  (pss_cons (ps_set (i := 4) sc__law_k09_great.nd rfl (by first | exact Or.inl rfl | exact Or.inr rfl) (pe_op op_cat (pv 4) (pe_lst (pa_cons (pe_ix (ix_tupK (K := K) rfl) (pv 5) (pe_int) (fun _ _ => rfl)) pa_nil))))
  (pss_cons (ps_set (i := 7) sc__law_k09_great.nd rfl (by first | exact Or.inl rfl | exact Or.inr rfl) (pe_call G__law_sky (hr.mono (by first | decide | omega)) rfl T.g__law_sky T.F__law_sky.kp b__law_sky .nil pass0 (pa_cons (pv 1) (pa_cons (pv 3) (pa_cons (pv 4) pa_nil)))))
  (pss_cons (ps_for PassesOwn.never rfl (pi_listK (K := K) rfl (pe_lst (pa_cons (pv 7) (pa_cons (pe_lc rfl sc__law_k09_great.nd (pi_listK (K := K) rfl (pv 7)) (blkOk_by (own := [("one", 9)]) (N := N__law_k09_great) (sc := defScope s__law_k09_great) (by decide +kernel)) (fun _ _ _ _ _ => (pg_name (i := 9) sc__law_k09_great.nd rfl (by first | exact Or.inl rfl | exact Or.inr rfl))) (fun _ _ _ _ _ => pts_nil) (fun _ _ _ _ _ => (pe_op op_sub (pv 9) (pe_int)))) (pa_cons (pe_lc rfl sc__law_k09_great.nd (pi_listK (K := K) rfl (pv 7)) (blkOk_by (own := [("one", 9)]) (N := N__law_k09_great) (sc := defScope s__law_k09_great) (by decide +kernel)) (fun _ _ _ _ _ => (pg_name (i := 9) sc__law_k09_great.nd rfl (by first | exact Or.inl rfl | exact Or.inr rfl))) (fun _ _ _ _ _ => pts_nil) (fun _ _ _ _ _ => (pe_op op_sub (pv 9) (pe_call G__law_draw (hr.mono (by first | decide | omega)) rfl T.g__law_draw T.F__law_draw.kp b__law_draw .nil pass0 (pa_cons (pv 0) (pa_cons (pe_int) pa_nil)))))) pa_nil))))) (pg_name (i := 8) sc__law_k09_great.nd rfl (by first | exact Or.inl rfl | exact Or.inr rfl))
  (pss_one (ps_if (pt_not (pt_val (pe_call G__law_matches (hr.mono (by first | decide | omega)) rfl T.g__law_matches T.F__law_matches.kp b__law_matches .nil pass0 (pa_cons (pe_call G_step (hr.mono (by first | decide | omega)) rfl T.g_step T.F_step.kp b_step .nil pass0 (pa_cons (pv 6) (pa_cons (pe_callTy (call_listK (K := K) rfl) (by rfl) T.n_list (by decide +kernel) (pa_cons (pv 8) pa_nil)) pa_nil))) (pa_cons (pe_call G__law_step (hr.mono (by first | decide | omega)) rfl T.g__law_step T.F__law_step.kp b__law_step .nil pass0 (pa_cons (pv 1) (pa_cons (pv 3) (pa_cons (pv 4) (pa_cons (pv 8) pa_nil))))) pa_nil))))) (pss_one (ps_ret (pe_bl))) pss_nil)))
  (pss_cons (ps_set (i := 10) sc__law_k09_great.nd rfl (by first | exact Or.inl rfl | exact Or.inr rfl) (pe_meth (pe_make T.mk_Stock G_Stock___init__ (hr.mono (by first | decide | omega)) rfl T.g_Stock b_Stock___init__ .nil passN (pa_cons (pe_int) (pa_cons (pe_op op_rep (pe_lst (pa_cons (pe_int) pa_nil)) (pv 2)) (pa_cons (pe_op op_rep (pe_lst (pa_cons (pe_int) pa_nil)) (pe_op op_sub (pe_int) (pv 2))) pa_nil)))) T.cl_Stock T.m_Stock_come G_Stock_come (hr.mono (by decide)) b_Stock_come .nil passN (pa_cons (pe_int) (pa_cons (pe_int) pa_nil))))
  (pss_cons (ps_if (pt_not (pt_val (pe_call G__law_matches (hr.mono (by first | decide | omega)) rfl T.g__law_matches T.F__law_matches.kp b__law_matches .nil pass0 (pa_cons (pe_call G_step (hr.mono (by first | decide | omega)) rfl T.g_step T.F_step.kp b_step .nil pass0 (pa_cons (pv 10) (pa_cons (pe_op op_rep (pe_lst (pa_cons (pe_int) pa_nil)) (pe_int)) pa_nil))) (pa_cons (pe_tup (pa_cons (pe_int) (pa_cons (pe_int) pa_nil))) pa_nil))))) (pss_one (ps_ret (pe_bl))) pss_nil)
  (pss_one (ps_ret (pe_call G__law_matches (hr.mono (by first | decide | omega)) rfl T.g__law_matches T.F__law_matches.kp b__law_matches .nil pass0 (pa_cons (pe_call G_step (hr.mono (by first | decide | omega)) rfl T.g_step T.F_step.kp b_step .nil pass0 (pa_cons (pv 10) (pa_cons (pe_op op_cat (pe_op op_rep (pe_lst (pa_cons (pe_int) pa_nil)) (pe_int)) (pe_lst (pa_cons (pe_un un_neg (pe_int)) pa_nil))) pa_nil))) (pa_cons (pe_non) pa_nil)))))))))))))))), ?_⟩
    try dsimp only [cxOf, Cx.nox, Cx.wish, List.map]
    refine h.reading fun F As M rs M' o hΦ hL B S hB hA post => ?_
    obtain ⟨p, rfl, rfl, rfl, rfl⟩ := hΦ
    dsimp only at post
    unfold grtP at post
    have r1 := draw_rng (p := p) (m := 60) (by omega)
    have r2 := draw_rng (p := (draw p 60).2) (m := 59) (by omega)
    refine q_set S (r := rint (1 + (draw p 60).1)) (M' := [pmc (draw p 60).2]) (ev_op ev_int (ev_drawC (p := p) (m := 60) (Ms := []) (ea_cons (ev_var rfl) (ea_cons ev_int ea_nil)) (by omega) (by omega)) od_int) ?_
    intro F As σ H S
    try simp only [List.set_cons_zero, List.set_cons_succ] at S
    have ht : 1 ≤ 1 + (draw p 60).1 ∧ 1 + (draw p 60).1 ≤ 60 := by omega
    generalize 1 + (draw p 60).1 = t at S post ht
    generalize (draw p 60).2 = p1 at S post r2
    refine q_set S (r := rint (1 + (draw p1 59).1)) (M' := [pmc (draw p1 59).2]) (ev_op ev_int (ev_drawC (p := p1) (m := 59) (Ms := []) (ea_cons (ev_var rfl) (ea_cons ev_int ea_nil)) (by omega) (by omega)) od_int) ?_
    intro F As σ H S
    try simp only [List.set_cons_zero, List.set_cons_succ] at S
    obtain ⟨q, hq⟩ : ∃ q : Nat, 1 + (draw p1 59).1 = (q : Int) := ⟨(1 + (draw p1 59).1).toNat, by omega⟩
    have q1 : 1 ≤ q ∧ q ≤ 59 := by omega
    rw [hq, Int.toNat_natCast, show (60 - (q : Int)).toNat = 60 - q by omega] at post
    rw [hq] at S
    clear hq r1 r2
    generalize (draw p1 59).2 = p2 at S post
    obtain ⟨k1, k2, k3, k4⟩ := dsk_ok (p := p2) (t := t) (q := q) (n := 60 - q) (by omega) (by omega)
    refine q_tup2 S (d1 := .lst ((dsk p2 t q (60 - q)).2.1.map D.int)) (d2 := .lst ((dsk p2 t q (60 - q)).2.2.map D.int)) (M' := [pmc (dsk p2 t q (60 - q)).1]) (ev_call1 (k := 0) (d := twoL (dsk p2 t q (60 - q)).2.1 (dsk p2 t q (60 - q)).2.2) (ea_cons (ev_var (r := .cel 0) rfl) (ea_cons (ev_var (r := rint t) rfl) (ea_cons (ev_var (r := rint (q : Int)) rfl) (ea_cons (ev_is (ev_op ev_int (ev_var (r := rint (q : Int)) rfl) od_int) (show rint (60 - (q : Int)) = rint ((60 - q : Nat) : Int) by rw [show (60 : Int) - (q : Int) = ((60 - q : Nat) : Int) by omega])) ea_nil)))) (by intro z; cases z) rfl (by intro z; cases z) ⟨p2, t, q, 60 - q, rfl, rfl, ⟨by omega, by omega⟩, ⟨by omega, by omega⟩, ⟨by omega, by omega⟩, rfl, rfl⟩) ?_
    intro F As σ H S
    try simp only [List.set_cons_zero, List.set_cons_succ] at S
    generalize dsk p2 t q (60 - q) = z at S post k1 k2 k3 k4
    obtain ⟨p3, bs, ps⟩ := z
    dsimp only at S post k1 k2 k3 k4
    have d1 := draw_rng (p := p3) (m := t + 1) (by omega)
    have d2 := draw_rng (p := (draw p3 (t + 1)).2) (m := t + 1) (by omega)
    refine q_set S (r := .dat (pairD ((draw p3 (t + 1)).1, (draw (draw p3 (t + 1)).2 (t + 1)).1))) (M' := [pmc (draw (draw p3 (t + 1)).2 (t + 1)).2]) (ev_tup (rs := [rint (draw p3 (t + 1)).1, rint (draw (draw p3 (t + 1)).2 (t + 1)).1]) (ea_cons (ev_drawC (p := p3) (m := t + 1) (Ms := []) (ea_cons (ev_var rfl) (ea_cons (ev_op (ev_var (r := rint t) rfl) ev_int od_int) ea_nil)) (by omega) (by omega)) (ea_cons (ev_drawC (p := (draw p3 (t + 1)).2) (m := t + 1) (Ms := []) (ea_cons (ev_var rfl) (ea_cons (ev_op (ev_var (r := rint t) rfl) ev_int od_int) ea_nil)) (by omega) (by omega)) ea_nil)) rfl (Nat.le_of_ble_eq_true rfl)) ?_
    intro F As σ H S
    try simp only [List.set_cons_zero, List.set_cons_succ] at S
    generalize (draw (draw p3 (t + 1)).2 (t + 1)).1 = x2 at S d2
    generalize (draw p3 (t + 1)).1 = x1 at S d1
    generalize (draw (draw p3 (t + 1)).2 (t + 1)).2 = p4 at S post
    have ix : ∀ {M : List MC} {E : List (Option Rv)}, E[5]? = some (some (.dat (pairD (x1, x2)))) → EvD K (tOp (rIxT K) (tVar 5) (tC (.int 0))) M E M (rint x1) ∧ EvD K (tOp (rIxT K) (tVar 5) (tC (.int 1))) M E M (rint x2) := fun z => ⟨ev_op (ev_var z) ev_int (od_ixT (d := .int x1) rfl), ev_op (ev_var z) ev_int (od_ixT (d := .int x2) rfl)⟩
    refine q_set S (r := .dat (stkD ad t (bs ++ [x1]) (ps ++ [x2]))) (M' := [pmc p4]) (ev_scome (ev_newStk (ad := ad) (ea_cons (ev_var (r := rint t) rfl) (ea_cons (ev_var (r := rints bs) rfl) (ea_cons (ev_var (r := rints ps) rfl) ea_nil))) ht k3 k4 (by omega)) (ea_cons (ix rfl).1 (ea_cons (ix rfl).2 ea_nil)) ht ⟨by omega, by omega⟩ ⟨by omega, by omega⟩ (by omega) (by omega)) ?_
    intro F As σ H S
    try simp only [List.set_cons_zero, List.set_cons_succ] at S
    refine q_set S (r := rints (bs ++ [x1])) (M' := [pmc p4]) (ev_is (ev_op (ev_var (r := rints bs) rfl) (ev_lst (ds := [.int x1]) (ea_cons (ix rfl).1 ea_nil) rfl (Nat.le_of_ble_eq_true rfl)) (od_cat (.inl rfl) (.inl rfl) (by rw [List.length_map]; show _ + 1 ≤ _; omega))) (rints_cat bs [x1])) ?_
    intro F As σ H S
    try simp only [List.set_cons_zero, List.set_cons_succ] at S
    refine q_set S (r := rints (ps ++ [x2])) (M' := [pmc p4]) (ev_is (ev_op (ev_var (r := rints ps) rfl) (ev_lst (ds := [.int x2]) (ea_cons (ix rfl).2 ea_nil) rfl (Nat.le_of_ble_eq_true rfl)) (od_cat (.inl rfl) (.inl rfl) (by rw [List.length_map]; show _ + 1 ≤ _; omega))) (rints_cat ps [x2])) ?_
    intro F As σ H S
    try simp only [List.set_cons_zero, List.set_cons_succ] at S
    have sz1 : ∀ {xs : List Int} {x : Int}, Sz t xs → 0 ≤ x ∧ x < t + 1 → Sz t (xs ++ [x]) := fun h hx z hz => by
      rcases List.mem_append.mp hz with q | q
      · exact h z q
      · rw [List.mem_singleton.mp q]; omega
    have sb := sz1 k3 d1
    have sp := sz1 k4 d2
    have lb : (bs ++ [x1]).length ≤ 61 := by rw [List.length_append, List.length_singleton]; omega
    have lp : (ps ++ [x2]).length ≤ 61 := by rw [List.length_append, List.length_singleton]; omega
    clear ix
    generalize bs ++ [x1] = bs at S sb lb
    generalize ps ++ [x2] = ps at S sp lp
    refine q_set S (r := rints (skyR t bs ps)) (M' := [pmc p4]) (ev_call0 (ea_cons (ev_var (r := rint t) rfl) (ea_cons (ev_var (r := rints bs) rfl) (ea_cons (ev_var (r := rints ps) rfl) ea_nil))) (by intro z; cases z) ⟨t, bs, ps, rfl, rfl, arg_of ⟨by omega, by omega⟩ (by omega) (by omega), rfl, rfl⟩) ?_
    intro F As σ H S
    try simp only [List.set_cons_zero, List.set_cons_succ] at S
    have ls := sky_len (t := t) (bs := bs) (ps := ps)
    have hrow : ∀ d ∈ [dints (skyR t bs ps), dints ((skyR t bs ps).map fun z => z - 1), dints (arr (skyR t bs ps).length fun i => gI (skyR t bs ps) (i : Int) - dAt p4 2 i)], ∃ row : List Int, d = dints row ∧ row.length = t.toNat := fun d hd => by
      simp only [List.mem_cons, List.not_mem_nil, or_false] at hd
      rcases hd with rfl | rfl | rfl
      · exact ⟨_, rfl, ls⟩
      · exact ⟨_, rfl, by rw [List.length_map, ls]⟩
      · exact ⟨_, rfl, by rw [arr_len, ls]⟩
    refine' q_forL S (ds := [dints (skyR t bs ps), dints ((skyR t bs ps).map fun z => z - 1), dints (arr (skyR t bs ps).length fun i => gI (skyR t bs ps) (i : Int) - dAt p4 2 i)]) (M1 := [pmc (pAft p4 2 (skyR t bs ps).length)]) (ev_lst (ea_cons (ev_var (r := rints (skyR t bs ps)) rfl) (ea_cons (ev_lcLAI (ns := skyR t bs ps) (fun z => z - 1) (ev_var (r := rints (skyR t bs ps)) rfl) (by omega) fun z hz => ev_op (ev_var (r := rint z) rfl) ev_int od_int) (ea_cons (ev_lcLS (ns := skyR t bs ps) (fun i => [pmc (pAft p4 2 i)]) (fun i => gI (skyR t bs ps) (i : Int) - dAt p4 2 i) (ev_var (r := rints (skyR t bs ps)) rfl) (by omega) rfl fun i hi => ev_op (ev_var (r := rint (gI (skyR t bs ps) (i : Int))) rfl) (ev_drawS (Ms := []) (p := p4) (m := 2) (i := i) (ea_cons (ev_var rfl) (ea_cons ev_int ea_nil)) (by omega) (by omega)) od_int) ea_nil))) rfl (Nat.le_of_ble_eq_true rfl)) (fun i M E => M = [pmc (pAft p4 2 (skyR t bs ps).length)] ∧ ∃ y z w, E = [some (.cel 0), some (rint t), some (rint (q : Int)), some (rints bs), some (rints ps), some (.dat (pairD (x1, x2))), some (.dat (stkD ad t bs ps)), some (rints (skyR t bs ps)), y, z, w]) ⟨rfl, _, _, _, rfl⟩ ?hb ?hd
    case hb =>
      rintro B2 cv i d M E hi ⟨rfl, y, z, w, rfl⟩ F As σ H S
      obtain ⟨row, rfl, lr⟩ := hrow d (List.mem_of_getElem? hi)
      try simp only [List.set_cons_zero, List.set_cons_succ] at S
      refine s_if S (b := false) (M' := [pmc (pAft p4 2 (skyR t bs ps).length)]) (et_not (b := true) (et_B (ev_match (n := 4) (d := optP (stepV t bs ps row)) (ea_cons (ev_call0 (ea_cons (ev_var (r := .dat (stkD ad t bs ps)) rfl) (ea_cons (ev_cb (ea_cons (ev_var (r := rints row) rfl) ea_nil) (cd_list (ds := row.map D.int) (.inl rfl))) ea_nil)) (by intro z; cases z) ⟨t, bs, ps, row, _, rfl, rfl, .inl rfl, ht, sb, sp, by omega, by omega, lr, rfl, rfl⟩) (ea_cons (ev_call0 (ea_cons (ev_var (r := rint t) rfl) (ea_cons (ev_var (r := rints bs) rfl) (ea_cons (ev_var (r := rints ps) rfl) (ea_cons (ev_var (r := rints row) rfl) ea_nil)))) (by intro z; cases z) ⟨t, bs, ps, row, rfl, rfl, ht, sb, sp, by omega, by omega, lr, rfl, rfl⟩) ea_nil)) (plain_optP 3)))) (fun hc => by cases hc) ?_
      intro _ F As σ H S
      refine s_next S ?_
      intro F As σ H S
      exact s_end S ⟨rfl, _, _, _, rfl⟩ (Ele.refl _)
    case hd =>
    rintro M E ⟨rfl, y, z, w, rfl⟩ F As σ H S
    try dsimp only
    rw [ls] at S
    generalize pAft p4 2 t.toNat = p5 at S post
    have rep : ∀ (v w : Int) {M : List MC} {E : List (Option Rv)} {te : TE}, 0 ≤ w → w ≤ 60 → EvD K te M E M (rint w) → EvD K (tOp rRep (tLst (tCons (tC (.int v)) tNil)) te) M E M (rints (List.replicate w.toNat v)) := fun v w {M E te} h0 h1 z1 => ev_is (ev_op (ev_lst (ds := [.int v]) (ea_cons ev_int ea_nil) rfl (Nat.le_of_ble_eq_true rfl)) z1 (od_rep (ds := [.int v]) (.inl rfl) ⟨by omega, by omega⟩ (by show 1 * _ ≤ _; omega))) (by
      show Rv.dat (.lst _) = Rv.dat (.lst _)
      rw [rep_one, List.map_replicate])
    refine q_set S (r := .dat (stkD ad 60 (List.replicate q 60 ++ [60]) (List.replicate (60 - q) 0 ++ [0]))) (M' := [pmc p5]) (ev_scome (t := 60) (bs := List.replicate q 60) (ps := List.replicate (60 - q) 0) (ev_newStk (ad := ad) (t := 60) (bs := List.replicate q 60) (ps := List.replicate (60 - q) 0) (ea_cons ev_int (ea_cons (rep 60 (q : Int) (by omega) (by omega) (ev_var rfl)) (ea_cons (ev_is (rep 0 (60 - (q : Int)) (by omega) (by omega) (ev_op ev_int (ev_var (r := rint (q : Int)) rfl) od_int)) (by rw [show (60 - (q : Int)).toNat = 60 - q by omega])) ea_nil))) ⟨by omega, by omega⟩ (fun z hz => wide_b.1 z (List.mem_append_left _ hz)) (fun z hz => wide_p.1 z (List.mem_append_left _ hz)) (by rw [List.length_replicate, List.length_replicate]; omega)) (ea_cons ev_int (ea_cons ev_int ea_nil)) ⟨by omega, by omega⟩ ⟨by omega, by omega⟩ ⟨by omega, by omega⟩ (by rw [List.length_replicate]; omega) (by rw [List.length_replicate]; omega)) ?_
    intro F As σ H S
    try simp only [List.set_cons_zero, List.set_cons_succ] at S
    have l60 : (List.replicate q (60 : Int) ++ [60]).length ≤ 1000 ∧ (List.replicate (60 - q) (0 : Int) ++ [0]).length ≤ 1000 := by
      rw [List.length_append, List.length_append, List.length_replicate, List.length_replicate, List.length_singleton, List.length_singleton]; omega
    refine q_if S (b := false) (M' := [pmc p5]) (et_not (b := true) (et_B (ev_match (n := 4) (d := pairD (0, 60)) (ea_cons (ev_call0 (ea_cons (ev_var (r := .dat (stkD ad 60 (List.replicate q 60 ++ [60]) (List.replicate (60 - q) 0 ++ [0]))) rfl) (ea_cons (rep 0 60 (by omega) (by omega) ev_int) ea_nil)) (by intro z; cases z) ⟨60, _, _, List.replicate 60 0, _, rfl, rfl, .inl rfl, ⟨by omega, by omega⟩, wide_b.1, wide_p.1, l60.1, l60.2, rfl, rfl, by rw [wide_step]; rfl⟩) (ea_cons (ev_tup (rs := [rint 0, rint 60]) (ea_cons ev_int (ea_cons ev_int ea_nil)) rfl (Nat.le_of_ble_eq_true rfl)) ea_nil)) (Plain.pair 3 _)))) (fun hc => by cases hc) ?_
    intro _ F As σ H S
    refine s_next S ?_
    intro F As σ H S
    refine s_ret S (r := rbl true) (M' := [pmc p5]) (ev_match (n := 4) (d := .non) (ea_cons (ev_call0 (ea_cons (ev_var (r := .dat (stkD ad 60 (List.replicate q 60 ++ [60]) (List.replicate (60 - q) 0 ++ [0]))) rfl) (ea_cons (ev_is (ev_op (rep 0 59 (by omega) (by omega) ev_int) (ev_lst (ds := [.int (-1)]) (ea_cons (ev_un ev_int ud_neg) ea_nil) rfl (Nat.le_of_ble_eq_true rfl)) (od_cat (.inl rfl) (.inl rfl) (Nat.le_of_ble_eq_true rfl))) (rints_cat (List.replicate 59 0) [-1])) ea_nil)) (by intro z; cases z) ⟨60, _, _, List.replicate 59 0 ++ [-1], _, rfl, rfl, .inl rfl, ⟨by omega, by omega⟩, wide_b.1, wide_p.1, l60.1, l60.2, rfl, rfl, by rw [wide_none]; rfl⟩) (ea_cons ev_non ea_nil)) trivial) ?_
    intro v F As σ H S r
    exact post _ _ _ _ _ _ _ S rfl r
end K09
set_option Elab.async false
set_option linter.all false
set_option maxRecDepth 100000
set_option maxHeartbeats 4000000
namespace K09
open PySem L2 DL
/-! ### the steps: one rule an expression, by its reading's head -/
local macro_rules | `(tactic| wtm_at "ev") => `(tactic| first
  | exact ev_var rfl
  | exact ev_int
  | exact ev_non
  | exact ev_bl
  | exact ev_str
  | exact ea_nil
  | with_reducible apply ea_cons
  | ((with_reducible refine' ev_isi ?a ?b ?c); (case' a => repeat' wtm_at "ev"); (case' b => exact rfl); (case' c => exact rfl))
  | with_reducible apply ev_cb
  | with_reducible apply ev_op
  | with_reducible apply ev_un
  | with_reducible apply et_test
  | with_reducible apply et_B
  | with_reducible apply et_not
  | with_reducible apply ev_isN
  | with_reducible apply ev_notN
  | with_reducible apply ev_notV
  | with_reducible apply et_and
  | with_reducible apply et_or
  | with_reducible apply ev_andV
  | with_reducible apply ev_orV
  | with_reducible apply ev_ifI
  | with_reducible apply ev_ifD
  | ((with_reducible refine' ev_dnotin ?a ?b ?c ?d); (case' a => repeat' wtm_at "ev"); (case' b => repeat' wtm_at "ev"); (case' c => exact rfl); (case' d => first | exact .inl rfl | exact .inr ⟨_, rfl, rfl⟩))
  | ((with_reducible refine' ev_din ?a ?b ?c ?d); (case' a => repeat' wtm_at "ev"); (case' b => repeat' wtm_at "ev"); (case' c => exact rfl); (case' d => first | exact .inl rfl | exact .inr ⟨_, rfl, rfl⟩))
  | with_reducible apply ev_lcLAI
  | with_reducible apply ev_lcLII
  | with_reducible apply ev_lcLA
  | with_reducible apply ev_lcLI
  | with_reducible apply ev_lcRAI
  | with_reducible apply ev_lcRI
  | with_reducible apply ev_lcRA
  | with_reducible apply ev_lcR
  | exact et_yes
  | with_reducible intro _
  | exact od_int
  | exact od_bool
  | exact od_eqI
  | exact od_neI
  | exact od_eqS
  | exact od_neS
  | exact ud_neg
  | exact cd_abs
  | exact cd_max2
  | exact cd_min2
  | exact cd_int
  | exact cd_intB
  | exact cd_lenScr
  | exact cd_lenT
  | exact cd_lenI (.inl rfl)
  | exact cd_lenI (.inr ⟨_, rfl, rfl⟩)
  | exact cd_len (.inl rfl)
  | exact cd_len (.inr ⟨_, rfl, rfl⟩)
  | exact cd_lenD (.inl rfl)
  | exact cd_lenD (.inr ⟨_, rfl, rfl⟩)
  | exact cd_sum (.inl rfl)
  | exact cd_sorted (.inl rfl)
  | exact cd_list (.inl rfl)
  | exact cd_listT
  | exact eo_none
  | with_reducible apply eo_some
  | with_reducible apply ev_sliceScr
  | refine' ev_sliceI ?_ ?_ ?_ (.inl rfl)
  | with_reducible apply od_intC
  | with_reducible apply od_ixScr
  | refine' od_ixI (.inl rfl) ?_ ?_
  | refine' od_ixI (.inr ⟨_, rfl, rfl⟩) ?_ ?_
  | exact od_ixT rfl
  | exact od_inI (.inl rfl)
  | exact od_notinI (.inl rfl)
  | refine' od_cat (.inl rfl) (.inl rfl) ?_
  | ((with_reducible refine' ev_tup ?h ?r ?l); (case' h => repeat' wtm_at "ev"); (case' r => exact rfl); (case' l => exact Nat.le_of_ble_eq_true rfl))
  | (refine (show CMul _ _ from .inl ⟨?_, ?_⟩) <;> decide)
  | (refine (show CMul _ _ from .inr ⟨?_, ?_⟩) <;> decide)
  | (refine (show (_ : Prop) from ?_); assumption)
  | (refine (show CDiv _ _ from ⟨?_, ?_⟩) <;> omega)
  | (refine (show CPow _ _ from ⟨?_, ?_, ?_⟩) <;> decide)
  | omega
  | (simp only [Pz.len]; done)
  | (simp only [Pz.len, List.length_map, List.length_append, List.length_range, List.length_set, List.length_reverse]; omega))
/-! a statement's step: its values are reckoned, what is left is the way on -/
local macro_rules | `(tactic| wtm_at "st") => `(tactic| first
  | (refine' q_set (by assumption) ?h ?k; (case' h => repeat' wtm_at "ev"); (case' k => (intro _ _ _ _ _; try dsimp only)))
  | (refine' s_set (by assumption) ?h ?k; (case' h => repeat' wtm_at "ev"); (case' k => (intro _ _ _ _ _; try dsimp only)))
  | (refine' q_augS (by assumption) ?h1 ?h2 ?h3 ?r1 ?r2 ?s1 ?s2 ?k; (case' h1 => repeat' wtm_at "ev"); (case' h2 => repeat' wtm_at "ev"); (case' h3 => repeat' wtm_at "ev"); (case' r1 => exact rfl); (case' r2 => exact rfl); (case' s1 => try wtm_at "ev"); (case' s2 => try wtm_at "ev"); (case' k => (intro _ _ _ _ _; try dsimp only)))
  | (refine' s_augS (by assumption) ?h1 ?h2 ?h3 ?r1 ?r2 ?s1 ?s2 ?k; (case' h1 => repeat' wtm_at "ev"); (case' h2 => repeat' wtm_at "ev"); (case' h3 => repeat' wtm_at "ev"); (case' r1 => exact rfl); (case' r2 => exact rfl); (case' s1 => try wtm_at "ev"); (case' s2 => try wtm_at "ev"); (case' k => (intro _ _ _ _ _; try dsimp only)))
  | (refine' q_setLI (by assumption) ?h ?h1 ?h2 ?r1 ?s1 ?s2 ?k; (case' h => repeat' wtm_at "ev"); (case' h1 => repeat' wtm_at "ev"); (case' h2 => repeat' wtm_at "ev"); (case' r1 => exact rfl); (case' s1 => try wtm_at "ev"); (case' s2 => try wtm_at "ev"); (case' k => (intro _ _ _ _ _; try dsimp only)))
  | (refine' q_setL (by assumption) ?h ?h1 ?h2 ?r1 ?s1 ?s2 ?k; (case' h => repeat' wtm_at "ev"); (case' h1 => repeat' wtm_at "ev"); (case' h2 => repeat' wtm_at "ev"); (case' r1 => exact rfl); (case' s1 => try wtm_at "ev"); (case' s2 => try wtm_at "ev"); (case' k => (intro _ _ _ _ _; try dsimp only)))
  | (refine' s_setLI (by assumption) ?h ?h1 ?h2 ?r1 ?s1 ?s2 ?k; (case' h => repeat' wtm_at "ev"); (case' h1 => repeat' wtm_at "ev"); (case' h2 => repeat' wtm_at "ev"); (case' r1 => exact rfl); (case' s1 => try wtm_at "ev"); (case' s2 => try wtm_at "ev"); (case' k => (intro _ _ _ _ _; try dsimp only)))
  | (refine' s_setL (by assumption) ?h ?h1 ?h2 ?r1 ?s1 ?s2 ?k; (case' h => repeat' wtm_at "ev"); (case' h1 => repeat' wtm_at "ev"); (case' h2 => repeat' wtm_at "ev"); (case' r1 => exact rfl); (case' s1 => try wtm_at "ev"); (case' s2 => try wtm_at "ev"); (case' k => (intro _ _ _ _ _; try dsimp only)))
  | (refine' q_appI (by assumption) ?h1 ?h ?r1 ?r2 ?s ?k; (case' h1 => repeat' wtm_at "ev"); (case' h => repeat' wtm_at "ev"); (case' r1 => exact rfl); (case' r2 => exact rfl); (case' s => try wtm_at "ev"); (case' k => (intro _ _ _ _ _; try dsimp only)))
  | (refine' q_app (by assumption) ?h1 ?h ?r1 ?r2 ?s ?k; (case' h1 => repeat' wtm_at "ev"); (case' h => repeat' wtm_at "ev"); (case' r1 => exact rfl); (case' r2 => exact rfl); (case' s => try wtm_at "ev"); (case' k => (intro _ _ _ _ _; try dsimp only)))
  | (refine' s_appI (by assumption) ?h1 ?h ?r1 ?r2 ?s ?k; (case' h1 => repeat' wtm_at "ev"); (case' h => repeat' wtm_at "ev"); (case' r1 => exact rfl); (case' r2 => exact rfl); (case' s => try wtm_at "ev"); (case' k => (intro _ _ _ _ _; try dsimp only)))
  | (refine' s_app (by assumption) ?h1 ?h ?r1 ?r2 ?s ?k; (case' h1 => repeat' wtm_at "ev"); (case' h => repeat' wtm_at "ev"); (case' r1 => exact rfl); (case' r2 => exact rfl); (case' s => try wtm_at "ev"); (case' k => (intro _ _ _ _ _; try dsimp only)))
  | (refine' q_dput (by assumption) ?h ?h1 ?h2 ?r1 ?r2 ?s ?k; (case' h => repeat' wtm_at "ev"); (case' h1 => repeat' wtm_at "ev"); (case' h2 => repeat' wtm_at "ev"); (case' r1 => exact rfl); (case' r2 => exact rfl); (case' s => try wtm_at "ev"); (case' k => (intro _ _ _ _ _; try dsimp only)))
  | (refine' s_dput (by assumption) ?h ?h1 ?h2 ?r1 ?r2 ?s ?k; (case' h => repeat' wtm_at "ev"); (case' h1 => repeat' wtm_at "ev"); (case' h2 => repeat' wtm_at "ev"); (case' r1 => exact rfl); (case' r2 => exact rfl); (case' s => try wtm_at "ev"); (case' k => (intro _ _ _ _ _; try dsimp only)))
  | (refine' q_tup2 (by assumption) ?h ?k; (case' h => repeat' wtm_at "ev"); (case' k => (intro _ _ _ _ _; try dsimp only)))
  | (refine' q_drop (by assumption) ?h ?k; (case' h => repeat' wtm_at "ev"); (case' k => (intro _ _ _ _ _; try dsimp only)))
  | (refine' q_if (by assumption) ?h ?k1 ?k2; (case' h => repeat' wtm_at "ev"))
  | (refine' s_if (by assumption) ?h ?k1 ?k2; (case' h => repeat' wtm_at "ev"))
  | (refine' s_ret (by assumption) ?h ?k; (case' h => repeat' wtm_at "ev"); (case' k => (intro _ _ _ _ _ _ _; try dsimp only)))
  | (refine' q_ret (by assumption) ?h ?k; (case' h => repeat' wtm_at "ev"); (case' k => (intro _ _ _ _ _ _ _; try dsimp only)))
  | ((with_reducible refine' s_next (by assumption) ?k); (case' k => (intro _ _ _ _ _; try dsimp only)))
  | (with_reducible refine q_next ?_))

def ph_law : List MC → List Rv → List MC → Out → Prop := fun M rs M' o => ∃ ns, M = [] ∧ rs = [.dat (.scr ns)] ∧ ns.length ≤ 63 ∧ M' = [] ∧ o = .ret (.bl true)
abbrev spF_law (K : PySem.W.Frag) : Sp := FSp K ph_law
def sp_law (K : PySem.W.Frag) : Sp := fun vs H Q _ => ∃ (a : Addr) (ns : List Int), vs = [.ref a] ∧ SqL K H a (ns.map V.int) ∧ ns.length ≤ 63 ∧ ∀ H', Q (.bl true) H'
theorem law_in {K : PySem.W.Frag} {vs : List V} {H : Hp} {Q : VK} {X : XK} (h : sp_law K vs H Q X) : spF_law K vs H Q X := by
  obtain ⟨a, ns, rfl, hs, hl, q⟩ := h
  refine ⟨H, [], [], [.dat (.scr ns)], [], .ret (.bl true), ⟨fun _ _ z => z, rfl, List.nodup_nil, fun k a mc z => by simp at z, ⟨rfl, fun i r z => ?_⟩, fun _ _ z => z, fun a o z _ => z, fun a o _ z => z, fun a z => (by cases z), fun a o z => ⟨o, z⟩, fun a z => (by cases z), List.prefix_refl _⟩, Live.nil, ⟨ns, rfl, rfl, hl, rfl, rfl⟩, fun v F' As' M'' H' fin rv => ?_⟩
  · cases i with
    | zero => cases z; exact ⟨_, rfl, .scr hs⟩
    | succ i => simp at z
  · cases rv
    exact q H'
/-- two purses, the k-th in turn -/
def Mk (k : Nat) (p o : Pz) : List MC := if k = 0 then [pmc p, pmc o] else [pmc o, pmc p]
theorem mk_get {k : Nat} {p o : Pz} {R : List MC} (h : k < 2) : (Mk k p o ++ R)[k]? = some (pmc p) := by
  rcases (show k = 0 ∨ k = 1 by omega) with rfl | rfl <;> rfl
theorem mk_set {k : Nat} {p q o : Pz} {R : List MC} (h : k < 2) : (Mk k p o ++ R).set k (pmc q) = Mk k q o ++ R := by
  rcases (show k = 0 ∨ k = 1 by omega) with rfl | rfl <;> rfl
theorem mk_two {k : Nat} {p o : Pz} {x y : MC} : (Mk k p o ++ [x, y])[2]? = some x ∧ (Mk k p o ++ [x, y])[3]? = some y ∧ ∀ z, (Mk k p o ++ [x, y]).set 3 z = Mk k p o ++ [x, z] := by
  unfold Mk
  split <;> exact ⟨rfl, rfl, fun z => rfl⟩
theorem mk_of {k : Nat} (p o : Pz) : ∃ x y, [pmc p, pmc o] = Mk k x y := by
  unfold Mk
  split
  · exact ⟨p, o, rfl⟩
  · exact ⟨o, p, rfl⟩
theorem mk_to {k : Nat} (p o : Pz) : ∃ x y, Mk k p o = [pmc x, pmc y] := by
  unfold Mk
  split
  · exact ⟨p, o, rfl⟩
  · exact ⟨o, p, rfl⟩
def deepP : MC := .deep (.lst [.cel 0, .cel 1])
def st4 (ad : Ad) (z : Int × List Int × List Int) : D := .tup [stkD ad z.1 z.2.1 z.2.2, .int z.1, .lst (z.2.1.map D.int), .lst (z.2.2.map D.int)]
structure Good (z : Int × List Int × List Int) : Prop where
  t : 1 ≤ z.1 ∧ z.1 ≤ 60
  b : Sz z.1 z.2.1
  p : Sz z.1 z.2.2
  lb : z.2.1.length ≤ 5
  lp : z.2.2.length ≤ 5
theorem st_at {ad : Ad} {L : List (Int × List Int × List Int)} {i : Int} (h : ∃ j : Nat, ixN 4 i = some j ∧ j < 4) (hl : L.length = 4) : ∃ z ∈ L, atI (L.map (st4 ad)) i = some (st4 ad z) := by
  obtain ⟨j, h1, h2⟩ := h
  have h3 : j < L.length := by omega
  refine ⟨L[j], List.getElem_mem h3, ?_⟩
  unfold atI
  rw [List.length_map, hl, h1]
  show (L.map (st4 ad))[j]? = _
  rw [List.getElem?_map, List.getElem?_eq_getElem h3]; rfl
theorem plain_tol {t : Int} {bs ps : List Int} (ht : 1 ≤ t ∧ t ≤ 60) (lb : bs.length ≤ 1000) (lp : ps.length ≤ 1000) : Plain 5 (tolD t bs ps) := by
  have ls := sky_len (t := t) (bs := bs) (ps := ps)
  have l1 := sortI_length bs
  have l2 := sortI_length ps
  refine ⟨by show 7 ≤ 16777216; omega, fun c hc => ?_⟩
  simp only [List.mem_cons, List.not_mem_nil, or_false] at hc
  rcases hc with rfl | rfl | rfl | rfl | rfl | rfl | rfl
  · trivial
  · exact Plain.ints 2 (by omega)
  · exact Plain.ints 2 (by omega)
  · exact Plain.ints 2 (by omega)
  · trivial
  · trivial
  · have lg : (goL bs ps).length ≤ 1000000 := Nat.le_trans goL_len (Nat.le_trans (Nat.mul_le_mul lp lb) (Nat.le_of_ble_eq_true rfl))
    refine ⟨by rw [List.length_map]; omega, fun d hd => ?_⟩
    obtain ⟨q, _, rfl⟩ := List.mem_map.mp hd
    exact Plain.pair 1 q
theorem okF_law {P : Program} {w : World} {K : PySem.W.Frag} {mg : Str → Option Value} {base : Heap} {ad : Ad} {fd : Fd} (T : Txt K mg w ad fd) : FnOk P w K mg base CX0 9 ad.a_law fd.d_law ["script"] (spF_law K) := by
  have G_Stock___init__ := ok_Stock___init__ (P := P) (base := base) T
  have b_Stock___init__ := T.F_Stock___init__.binds (ps := ["self", "top", "bores", "pins"]) fun _ _ _ _ _ _ us hl => match us, hl with | [_, _, _, _], _ => rfl
  have G__law_draw := ok__law_draw (P := P) (base := base) T
  have b__law_draw := T.F__law_draw.binds (ps := ["purse", "many"]) fun _ _ _ _ _ _ us hl => match us, hl with | [_, _], _ => rfl
  have G__law_due := ok__law_due (P := P) (base := base) T
  have b__law_due := T.F__law_due.binds (ps := ["top", "bores", "pins"]) fun _ _ _ _ _ _ us hl => match us, hl with | [_, _, _], _ => rfl
  have G__law_k09_great := ok__law_k09_great (P := P) (base := base) T
  have b__law_k09_great := T.F__law_k09_great.binds (ps := ["purse"]) fun _ _ _ _ _ _ us hl => match us, hl with | [_], _ => rfl
  have G__law_k09_one := ok__law_k09_one (P := P) (base := base) T
  have b__law_k09_one := T.F__law_k09_one.binds (ps := ["stock", "top", "bores", "pins", "row"]) fun _ _ _ _ _ _ us hl => match us, hl with | [_, _, _, _, _], _ => rfl
  have G__law_k09_pieces := ok__law_k09_pieces (P := P) (base := base) T
  have b__law_k09_pieces := T.F__law_k09_pieces.binds (ps := ["purse", "top"]) fun _ _ _ _ _ _ us hl => match us, hl with | [_, _], _ => rfl
  have G__law_k09_rows := ok__law_k09_rows (P := P) (base := base) T
  have b__law_k09_rows := T.F__law_k09_rows.binds (ps := ["purse", "top", "bores", "pins"]) fun _ _ _ _ _ _ us hl => match us, hl with | [_, _, _, _], _ => rfl
  have G__law_matches := ok__law_matches (P := P) (base := base) T 5
  have b__law_matches := T.F__law_matches.binds (ps := ["answer", "due"]) fun _ _ _ _ _ _ us hl => match us, hl with | [_, _], _ => rfl
  have G__law_purse := ok__law_purse (P := P) (base := base) T
  have b__law_purse := T.F__law_purse.binds (ps := ["script", "at"]) fun _ _ _ _ _ _ us hl => match us, hl with | [_, _], _ => rfl
  have G__law_told := ok__law_told (P := P) (base := base) T
  have b__law_told := T.F__law_told.binds (ps := ["stock"]) fun _ _ _ _ _ _ us hl => match us, hl with | [_], _ => rfl
  refine L2.Fun.ok (k := 8) T.F_law sc_law (fun vs H Q E h => ?_) (fun cdv A outer s H vs Q E hr h => ?_)
  · exact h.len fun M rs M' o ⟨_, _, e, _⟩ => by rw [e]; rfl
  · have hu := hu_of hr
    refine ⟨_, (pss_cons (ps_setLc (i := 1) rfl sc_law.nd rfl rfl (sw_true rfl rfl rfl (by decide +kernel)) (pi_range1 (by rfl) T.n_range (pa_cons (pe_int) pa_nil)) (blkOk_by (own := [("side", 2)]) (N := N_law) (sc := defScope s_law) (by decide +kernel)) (fun _ _ _ _ _ => (pg_name (i := 2) sc_law.nd rfl (by first | exact Or.inl rfl | exact Or.inr rfl))) (fun _ _ _ _ _ => pts_nil) (fun _ _ _ _ _ => (pe_call G__law_purse (hr.mono (by first | decide | omega)) rfl T.g__law_purse T.F__law_purse.kp b__law_purse .nil pass0 (pa_cons (pv 0) (pa_cons (pv 2) pa_nil)))))
  (pss_cons (ps_set (i := 3) sc_law.nd rfl (by first | exact Or.inl rfl | exact Or.inr rfl) (pe_lst pa_nil))
  (pss_cons (ps_for PassesOwn.never rfl (pi_range1 (by rfl) T.n_range (pa_cons (pe_int) pa_nil)) (pg_name (i := 4) sc_law.nd rfl (by first | exact Or.inl rfl | exact Or.inr rfl))
  (pss_cons (ps_set (i := 5) sc_law.nd rfl (by first | exact Or.inl rfl | exact Or.inr rfl) (pe_ix (ix_listK (K := K) rfl) (pv 1) (pe_op op_mod (pv 4) (pe_int)) (fun _ _ => rfl)))
  (pss_cons (ps_set (i := 6) sc_law.nd rfl (by first | exact Or.inl rfl | exact Or.inr rfl) (pe_op op_add (pe_int) (pe_call G__law_draw (hr.mono (by first | decide | omega)) rfl T.g__law_draw T.F__law_draw.kp b__law_draw .nil pass0 (pa_cons (pv 5) (pa_cons (pe_int) pa_nil)))))
  (pss_cons (ps_asg (pe_call G__law_k09_pieces (hr.mono (by first | decide | omega)) rfl T.g__law_k09_pieces T.F__law_k09_pieces.kp b__law_k09_pieces .nil pass0 (pa_cons (pv 5) (pa_cons (pv 6) pa_nil))) (pg_tupK (K := K) rfl rfl (pgs_cons (pg_name (i := 7) sc_law.nd rfl (by first | exact Or.inl rfl | exact Or.inr rfl)) (pgs_cons (pg_name (i := 8) sc_law.nd rfl (by first | exact Or.inl rfl | exact Or.inr rfl)) pgs_nil))))
  (pss_one (ps_expr (pe_bmK (K := K) (id := "list.append") rfl (pe_bm PySem.F.plainAttrs_list PySem.F.slot_list_append PySem.F.type_list_append mt_append (pv 3) (pa_cons (pe_tup (pa_cons (pe_make T.mk_Stock G_Stock___init__ (hr.mono (by first | decide | omega)) rfl T.g_Stock b_Stock___init__ .nil passN (pa_cons (pv 6) (pa_cons (pv 7) (pa_cons (pv 8) pa_nil)))) (pa_cons (pv 6) (pa_cons (pv 7) (pa_cons (pv 8) pa_nil))))) pa_nil)))))))))
  (pss_cons (ps_for PassesOwn.never rfl (pi_range1 (by rfl) T.n_range (pa_cons (pe_int) pa_nil)) (pg_name (i := 4) sc_law.nd rfl (by first | exact Or.inl rfl | exact Or.inr rfl))
  (pss_cons (ps_asg (pe_ix (ix_listK (K := K) rfl) (pv 3) (pv 4) (fun _ _ => rfl)) (pg_tupK (K := K) rfl rfl (pgs_cons (pg_name (i := 9) sc_law.nd rfl (by first | exact Or.inl rfl | exact Or.inr rfl)) (pgs_cons (pg_name (i := 6) sc_law.nd rfl (by first | exact Or.inl rfl | exact Or.inr rfl)) (pgs_cons (pg_name (i := 7) sc_law.nd rfl (by first | exact Or.inl rfl | exact Or.inr rfl)) (pgs_cons (pg_name (i := 8) sc_law.nd rfl (by first | exact Or.inl rfl | exact Or.inr rfl)) pgs_nil))))))
  (pss_cons (ps_for PassesOwn.never rfl (pi_listK (K := K) rfl (pe_call G__law_k09_rows (hr.mono (by first | decide | omega)) rfl T.g__law_k09_rows T.F__law_k09_rows.kp b__law_k09_rows .nil pass0 (pa_cons (pe_ix (ix_listK (K := K) rfl) (pv 1) (pe_op op_mod (pv 4) (pe_int)) (fun _ _ => rfl)) (pa_cons (pv 6) (pa_cons (pv 7) (pa_cons (pv 8) pa_nil)))))) (pg_name (i := 10) sc_law.nd rfl (by first | exact Or.inl rfl | exact Or.inr rfl))
  (pss_one (ps_if (pt_not (pt_val (pe_call G__law_k09_one (hr.mono (by first | decide | omega)) rfl T.g__law_k09_one T.F__law_k09_one.kp b__law_k09_one .nil pass0 (pa_cons (pv 9) (pa_cons (pv 6) (pa_cons (pv 7) (pa_cons (pv 8) (pa_cons (pv 10) pa_nil)))))))) (pss_one (ps_ret (pe_bl))) pss_nil)))
  (pss_cons (ps_set (i := 11) sc_law.nd rfl (by first | exact Or.inl rfl | exact Or.inr rfl) (pe_ix (ix_listK (K := K) rfl) (pv 3) (pe_op op_sub (pv 4) (pe_int)) (fun _ _ => rfl)))
  (pss_one (ps_if (pt_not (pt_val (pe_call G__law_matches (hr.mono (by first | decide | omega)) rfl T.g__law_matches T.F__law_matches.kp b__law_matches .nil pass0 (pa_cons (pe_call G__law_told (hr.mono (by first | decide | omega)) rfl T.g__law_told T.F__law_told.kp b__law_told .nil pass0 (pa_cons (pe_ix (ix_tupK (K := K) rfl) (pv 11) (pe_int) (fun _ _ => rfl)) pa_nil)) (pa_cons (pe_call G__law_due (hr.mono (by first | decide | omega)) rfl T.g__law_due T.F__law_due.kp b__law_due .nil pass0 (pa_cons (pe_ix (ix_tupK (K := K) rfl) (pv 11) (pe_int) (fun _ _ => rfl)) (pa_cons (pe_ix (ix_tupK (K := K) rfl) (pv 11) (pe_int) (fun _ _ => rfl)) (pa_cons (pe_ix (ix_tupK (K := K) rfl) (pv 11) (pe_int) (fun _ _ => rfl)) pa_nil)))) pa_nil))))) (pss_one (ps_ret (pe_bl))) pss_nil))))))
  (pss_one (ps_ret ((pe_or (pe_cmpR op_gt (pe_call G__law_draw (hr.mono (by first | decide | omega)) rfl T.g__law_draw T.F__law_draw.kp b__law_draw .nil pass0 (pa_cons (pe_ix (ix_listK (K := K) rfl) (pv 1) (pe_int) (fun _ _ => rfl)) (pa_cons (pe_int) pa_nil))) (pe_int) (nomark _)) (pe_one (pe_call G__law_k09_great (hr.mono (by first | decide | omega)) rfl T.g__law_k09_great T.F__law_k09_great.kp b__law_k09_great .nil pass0 (pa_cons (pe_ix (ix_listK (K := K) rfl) (pv 1) (pe_int) (fun _ _ => rfl)) pa_nil))))))))))), ?_⟩
    try dsimp only [cxOf, Cx.nox, Cx.wish, List.map]
    refine h.reading fun F As M rs M' o hΦ hL B S hB hA post => ?_
    obtain ⟨ns, rfl, rfl, hl, rfl, rfl⟩ := hΦ
    dsimp only at post
    refine q_set S (r := .cel 2) (M' := [pmc (purseOf ns 0), pmc (purseOf ns 1), deepP]) (ev_lcR1C (n := 2) (M1 := []) (fun i => (List.range i).map fun k => pmc (purseOf ns (k : Nat))) (fun i => .cel i) (ea_cons ev_int ea_nil) (by omega) rfl fun i hi => ev_is (ev_isM (ev_callN (mc := pmc (purseOf ns (i : Int))) (ea_cons (ev_var (r := .dat (.scr ns)) rfl) (ea_cons (ev_var (r := rint (i : Int)) rfl) ea_nil)) (by intro z; cases z) ⟨ns, (i : Int), rfl, rfl, by omega, hl, rfl, rfl⟩) (by rw [List.range_succ, List.map_append]; rfl)) (by rw [List.length_map, List.length_range])) ?_
    intro F As σ H S
    try simp only [List.set_cons_zero, List.set_cons_succ] at S
    generalize purseOf ns 0 = p0 at S
    generalize purseOf ns 1 = p1 at S
    refine q_set S (r := .cel 3) (M' := [pmc p0, pmc p1, deepP, .lst []]) (ev_lstM (ds := []) ea_nil rfl (Nat.zero_le _)) ?_
    intro F As σ H S
    try simp only [List.set_cons_zero, List.set_cons_succ] at S
    have pur : ∀ (i : Nat) {M : List MC} {E : List (Option Rv)}, M[2]? = some deepP → E[1]? = some (some (.cel 2)) → E[4]? = some (some (rint (i : Int))) → EvD K (tOp (rIxL K) (tVar 1) (tOp (rI (fun _ j => 0 < j) fun i j => .int (i % j)) (tVar 4) (tC (.int 2)))) M E M (.cel (i % 2)) := fun i {M E} hm z1 z4 => ev_op (ev_var z1) (ev_op (ev_var z4) ev_int (od_intC (by omega))) (od_ixLc hm (by
      have e : (i : Int) % 2 = ((i % 2 : Nat) : Int) := by omega
      rw [e]
      rcases (show i % 2 = 0 ∨ i % 2 = 1 by omega) with h | h <;> rw [h] <;> rfl))
    refine' q_forR1 S (n := 4) (ea_cons ev_int ea_nil) (by omega) (fun i M E => ∃ x0 x1 L, M = [pmc x0, pmc x1, deepP, .lst (L.map (st4 ad))] ∧ L.length = i ∧ (∀ z ∈ L, Good z) ∧ ∃ y2 y4 y5 y6 y7 y8 y9 y10 y11, E = [some (.dat (.scr ns)), some (.cel 2), y2, some (.cel 3), y4, y5, y6, y7, y8, y9, y10, y11]) ⟨p0, p1, [], rfl, rfl, (fun z hz => by cases hz), _, _, _, _, _, _, _, _, _, rfl⟩ ?hb ?hd
    case hb =>
      rintro i M E hi ⟨x0, x1, L, rfl, hLl, hG, y2, y4, y5, y6, y7, y8, y9, y10, y11, rfl⟩ F As σ H S
      try simp only [List.set_cons_zero, List.set_cons_succ] at S
      obtain ⟨p, o, hMk⟩ := mk_of (k := i % 2) x0 x1
      have k2 : i % 2 < 2 := by omega
      rw [show ([pmc x0, pmc x1, deepP, MC.lst (L.map (st4 ad))] : List MC) = Mk (i % 2) p o ++ [deepP, .lst (L.map (st4 ad))] from by rw [← hMk]; rfl] at S
      clear hMk
      refine q_set S (pur i mk_two.1 rfl rfl) ?_
      intro F As σ H S
      try simp only [List.set_cons_zero, List.set_cons_succ] at S
      have r1 := draw_rng (p := p) (m := 5) (by omega)
      refine q_set S (r := rint (1 + (draw p 5).1)) (M' := Mk (i % 2) (draw p 5).2 o ++ [deepP, .lst (L.map (st4 ad))]) (ev_op ev_int (ev_isM (ev_draw (k := i % 2) (p := p) (m := 5) (ea_cons (ev_var rfl) (ea_cons ev_int ea_nil)) (mk_get k2) (by omega) (by omega)) (mk_set k2)) od_int) ?_
      intro F As σ H S
      try simp only [List.set_cons_zero, List.set_cons_succ] at S
      have ht : 1 ≤ 1 + (draw p 5).1 ∧ 1 + (draw p 5).1 ≤ 60 := by omega
      generalize 1 + (draw p 5).1 = t at S ht
      generalize (draw p 5).2 = q at S
      obtain ⟨c1, c2, c3, c4⟩ := pcs_ok (p := q) ht.1
      refine q_tup2 S (d1 := .lst ((pcs q t).2.1.map D.int)) (d2 := .lst ((pcs q t).2.2.map D.int)) (M' := Mk (i % 2) (pcs q t).1 o ++ [deepP, .lst (L.map (st4 ad))]) (ev_isM (ev_call1 (k := i % 2) (d := twoL (pcs q t).2.1 (pcs q t).2.2) (ea_cons (ev_var (r := .cel (i % 2)) rfl) (ea_cons (ev_var (r := rint t) rfl) ea_nil)) (by intro z; cases z) (mk_get k2) (by intro z; cases z) ⟨q, t, rfl, rfl, ht, rfl, rfl⟩) (mk_set k2)) ?_
      intro F As σ H S
      try simp only [List.set_cons_zero, List.set_cons_succ] at S
      generalize pcs q t = z at S c1 c2 c3 c4
      obtain ⟨p3, bs, ps⟩ := z
      dsimp only at S c1 c2 c3 c4
      refine s_app S (k := 3) (ds := L.map (st4 ad)) (M2 := Mk (i % 2) p3 o ++ [deepP, .lst (L.map (st4 ad))]) (d := st4 ad (t, bs, ps)) (ev_var (r := .cel 3) rfl) (ev_tup (rs := [.dat (stkD ad t bs ps), rint t, rints bs, rints ps]) (ea_cons (ev_newStk (ad := ad) (ea_cons (ev_var (r := rint t) rfl) (ea_cons (ev_var (r := rints bs) rfl) (ea_cons (ev_var (r := rints ps) rfl) ea_nil))) ht c3 c4 (by omega)) (ea_cons (ev_var rfl) (ea_cons (ev_var rfl) (ea_cons (ev_var rfl) ea_nil)))) rfl (Nat.le_of_ble_eq_true rfl)) mk_two.2.1 mk_two.2.1 (by rw [List.length_map]; omega) ?_
      intro F As σ H S
      rw [mk_two.2.2] at S
      obtain ⟨a, b, e⟩ := mk_to (k := i % 2) p3 o
      rw [e] at S
      refine s_end S ⟨a, b, L ++ [(t, bs, ps)], by rw [List.map_append]; rfl, by rw [List.length_append, hLl]; rfl, fun z hz => ?_, _, _, _, _, _, _, _, _, _, rfl⟩ (Ele.refl _)
      rcases List.mem_append.mp hz with h | h
      · exact hG z h
      · rw [List.mem_singleton.mp h]
        exact ⟨ht, c3, c4, c1, c2⟩
    case hd =>
    rintro M E ⟨x0, x1, L, rfl, hLl, hG, y2, y4, y5, y6, y7, y8, y9, y10, y11, rfl⟩ F As σ H S
    have hL4 : L.length = 4 := hLl
    refine' q_forR1 S (n := 4) (ea_cons ev_int ea_nil) (by omega) (fun i M E => ∃ x0 x1, M = [pmc x0, pmc x1, deepP, .lst (L.map (st4 ad))] ∧ ∃ y2 y4 y5 y6 y7 y8 y9 y10 y11, E = [some (.dat (.scr ns)), some (.cel 2), y2, some (.cel 3), y4, y5, y6, y7, y8, y9, y10, y11]) ⟨x0, x1, rfl, _, _, _, _, _, _, _, _, _, rfl⟩ ?cb ?cd
    case cb =>
      rintro i M E hi ⟨x0, x1, rfl, y2, y4, y5, y6, y7, y8, y9, y10, y11, rfl⟩ F As σ H S
      try simp only [List.set_cons_zero, List.set_cons_succ] at S
      have hi4 : i < 4 := by omega
      obtain ⟨⟨t, bs, ps⟩, hzm, hz⟩ := st_at (ad := ad) (i := (i : Int)) ⟨i, by rcases (show i = 0 ∨ i = 1 ∨ i = 2 ∨ i = 3 by omega) with rfl | rfl | rfl | rfl <;> rfl, hi4⟩ hL4
      obtain ⟨g1, g2, g3, g4, g5⟩ := hG _ hzm
      dsimp only at g1 g2 g3 g4 g5
      refine q_tup4 S (d1 := stkD ad t bs ps) (d2 := .int t) (d3 := .lst (bs.map D.int)) (d4 := .lst (ps.map D.int)) (ev_op (ev_var (r := .cel 3) rfl) (ev_var (r := rint (i : Int)) rfl) (od_ixL (ds := L.map (st4 ad)) (.inr ⟨3, rfl, rfl⟩) hz)) ?_
      intro F As σ H S
      try simp only [List.set_cons_zero, List.set_cons_succ] at S
      obtain ⟨p, o, hMk⟩ := mk_of (k := i % 2) x0 x1
      have k2 : i % 2 < 2 := by omega
      rw [show ([pmc x0, pmc x1, deepP, MC.lst (L.map (st4 ad))] : List MC) = Mk (i % 2) p o ++ [deepP, .lst (L.map (st4 ad))] from by rw [← hMk]; rfl] at S
      clear hMk
      have hrl := rwsF_len (p := p) (t := t) (bs := bs) (ps := ps) g1.1
      refine' q_forL S (ds := (rwsF p t bs ps).2.map dints) (M1 := Mk (i % 2) (rwsF p t bs ps).1 o ++ [deepP, .lst (L.map (st4 ad))]) (ev_isM (ev_call1 (k := i % 2) (d := rowsD (rwsF p t bs ps).2) (ea_cons (pur i mk_two.1 rfl rfl) (ea_cons (ev_var (r := rint t) rfl) (ea_cons (ev_var (r := rints bs) rfl) (ea_cons (ev_var (r := rints ps) rfl) ea_nil)))) (by intro z; cases z) (mk_get k2) (by intro z; cases z) ⟨p, t, bs, ps, rfl, rfl, g1, by omega, by omega, rfl, rfl⟩) (mk_set k2)) (fun j M E => M = Mk (i % 2) (rwsF p t bs ps).1 o ++ [deepP, .lst (L.map (st4 ad))] ∧ ∃ y5 y10 y11, E = [some (.dat (.scr ns)), some (.cel 2), y2, some (.cel 3), some (rint (i : Int)), y5, some (rint t), some (rints bs), some (rints ps), some (.dat (stkD ad t bs ps)), y10, y11]) ⟨rfl, _, _, _, rfl⟩ ?db ?dd
      case db =>
        rintro B2 cv j d M E hj ⟨rfl, y5, y10, y11, rfl⟩ F As σ H S
        have hd := List.mem_of_getElem? hj
        obtain ⟨row, hrow, rfl⟩ := List.mem_map.mp hd
        have lr := hrl row hrow
        try simp only [List.set_cons_zero, List.set_cons_succ] at S
        refine s_if S (b := false) (M' := Mk (i % 2) (rwsF p t bs ps).1 o ++ [deepP, .lst (L.map (st4 ad))]) (et_not (b := true) (et_B (ev_call0 (ea_cons (ev_var (r := .dat (stkD ad t bs ps)) rfl) (ea_cons (ev_var (r := rint t) rfl) (ea_cons (ev_var (r := rints bs) rfl) (ea_cons (ev_var (r := rints ps) rfl) (ea_cons (ev_var (r := rints row) rfl) ea_nil))))) (by intro z; cases z) ⟨t, bs, ps, row, rfl, rfl, g1, g2, g3, by omega, by omega, lr, rfl, rfl⟩))) (fun hc => by cases hc) ?_
        intro _ F As σ H S
        refine s_next S ?_
        intro F As σ H S
        exact s_end S ⟨rfl, _, _, _, rfl⟩ (Ele.refl _)
      case dd =>
      rintro M E ⟨rfl, y5, y10, y11, rfl⟩ F As σ H S
      obtain ⟨a, b, e⟩ := mk_to (k := i % 2) (rwsF p t bs ps).1 o
      rw [e] at S
      have S : Sta K B F As [pmc a, pmc b, deepP, .lst (L.map (st4 ad))] σ _ H := S
      try dsimp only
      obtain ⟨⟨t2, bs2, ps2⟩, hzm2, hz2⟩ := st_at (ad := ad) (i := (i : Int) - 1) (by
        rcases (show i = 0 ∨ i = 1 ∨ i = 2 ∨ i = 3 by omega) with rfl | rfl | rfl | rfl
        · exact ⟨3, rfl, by omega⟩
        · exact ⟨0, rfl, by omega⟩
        · exact ⟨1, rfl, by omega⟩
        · exact ⟨2, rfl, by omega⟩) hL4
      obtain ⟨q1, q2, q3, q4, q5⟩ := hG _ hzm2
      dsimp only at q1 q2 q3 q4 q5
      refine q_set S (r := .dat (st4 ad (t2, bs2, ps2))) (M' := [pmc a, pmc b, deepP, .lst (L.map (st4 ad))]) (ev_op (ev_var (r := .cel 3) rfl) (ev_op (ev_var (r := rint (i : Int)) rfl) ev_int od_int) (od_ixL (ds := L.map (st4 ad)) (.inr ⟨3, rfl, rfl⟩) hz2)) ?_
      intro F As σ H S
      try simp only [List.set_cons_zero, List.set_cons_succ] at S
      have v11 : ∀ {M : List MC} {E : List (Option Rv)}, E[11]? = some (some (.dat (st4 ad (t2, bs2, ps2)))) → EvD K (tVar 11) M E M (.dat (st4 ad (t2, bs2, ps2))) := fun z => ev_var z
      refine s_if S (b := false) (M' := [pmc a, pmc b, deepP, .lst (L.map (st4 ad))]) (et_not (b := true) (et_B (ev_match (n := 4) (d := tolD t2 bs2 ps2) (ea_cons (ev_call0 (d := tolD t2 bs2 ps2) (ea_cons (ev_op (v11 rfl) ev_int (od_ixT (d := stkD ad t2 bs2 ps2) rfl)) ea_nil) (by intro z; cases z) ⟨t2, bs2, ps2, rfl, rfl, q1, q2, q3, by omega, by omega, rfl, rfl⟩) (ea_cons (ev_call0 (d := tolD t2 bs2 ps2) (ea_cons (ev_op (v11 rfl) ev_int (od_ixT (d := .int t2) rfl)) (ea_cons (ev_op (v11 rfl) ev_int (od_ixT (d := .lst (bs2.map D.int)) rfl)) (ea_cons (ev_op (v11 rfl) ev_int (od_ixT (d := .lst (ps2.map D.int)) rfl)) ea_nil))) (by intro z; cases z) ⟨t2, bs2, ps2, rfl, rfl, q1, q2, q3, by omega, by omega, rfl, rfl⟩) ea_nil)) (plain_tol q1 (by omega) (by omega))))) (fun hc => by cases hc) ?_
      intro _ F As σ H S
      refine s_next S ?_
      intro F As σ H S
      exact s_end S ⟨a, b, rfl, _, _, _, _, _, _, _, _, _, rfl⟩ (Ele.refl _)
    case cd =>
    rintro M E ⟨a, b, rfl, y2, y4, y5, y6, y7, y8, y9, y10, y11, rfl⟩ F As σ H S
    try dsimp only
    have ev0 : ∀ {E : List (Option Rv)}, E[1]? = some (some (.cel 2)) → EvD K (tOp (rI0 fun i j => V.bl (decide (j < i))) (tCall (sp__law_draw K) [] E0 (tCons (tOp (rIxL K) (tVar 1) (tC (.int 0))) (tCons (tC (.int 12)) tNil))) (tC (.int 0))) [pmc a, pmc b, deepP, .lst (L.map (st4 ad))] E [pmc (draw a 12).2, pmc b, deepP, .lst (L.map (st4 ad))] (rbl (decide (0 < (draw a 12).1))) := fun z1 => ev_op (ev_isM (ev_draw (k := 0) (p := a) (m := 12) (ea_cons (ev_op (ev_var z1) ev_int (od_ixLc rfl rfl)) (ea_cons ev_int ea_nil)) rfl (by omega) (by omega)) rfl) ev_int od_bool
    by_cases c : 0 < (draw a 12).1
    · refine s_ret S (r := rbl true) (M' := [pmc (draw a 12).2, pmc b, deepP, .lst (L.map (st4 ad))]) (ev_is (ev_orV (b := true) (c := true) (ev_is (ev0 rfl) (by rw [decide_eq_true c])) (fun z => by cases z)) rfl) ?_
      intro v F As σ H S r
      exact post _ _ _ _ _ _ _ S rfl r
    · refine s_ret S (r := rbl true) (M' := [pmc (draw a 12).2, pmc (grtP b), deepP, .lst (L.map (st4 ad))]) (ev_or2 (ev_is (ev0 rfl) (by rw [decide_eq_false c])) (ev_isM (ev_call1 (k := 1) (d := .bl true) (ea_cons (ev_op (ev_var (r := .cel 2) rfl) ev_int (od_ixLc rfl rfl)) ea_nil) (by intro z; cases z) rfl (by intro z; cases z) ⟨b, rfl, rfl, rfl, rfl⟩) rfl)) ?_
      intro v F As σ H S r
      exact post _ _ _ _ _ _ _ S rfl r
theorem ok_law {P : Program} {w : World} {K : PySem.W.Frag} {mg : Str → Option Value} {base : Heap} {ad : Ad} {fd : Fd} (T : Txt K mg w ad fd) : FnOk P w K mg base CX0 9 ad.a_law fd.d_law ["script"] (sp_law K) :=
  (okF_law T).imp fun _ _ _ _ h => law_in h
end K09
set_option Elab.async false
set_option linter.all false
set_option maxRecDepth 100000
set_option maxHeartbeats 4000000
namespace K09
open PySem L2 DL
theorem all_mk {P : Program} {w : World} {K : PySem.W.Frag} {h : Heap} {mg : Str → Option Value} {fa : Addr} (X : K.In h) (G : h.Ns mainGlobals mg) (hfa : mg "law" = some (.ref fa))
    {f_TooMany___init__ f_BadSize___init__ f_BadStock___init__ f_check f_check_within f_check_sizes f_check_stock_top f_turns_of f_skyline_of f_with_pieces f_without f_Stock___init__ f_Stock_top f_Stock_bores f_Stock_pins f_Stock_skyline f_Stock_turns f_Stock_spare f_Stock_come f_Stock_give f_Stock_can_give f_exact_size f_bore_behind f_step f__law_purse f__law_draw f__law_matches f__law_below f__law_above f__law_sky f__law_turns f__law_bent f__law_within f__law_drawn_stock f__law_exact_many f__law_couples f__law_told f__law_due f__law_eased f__law_summed f__law_without f__law_step f__law_k09_pieces f__law_k09_rows f__law_k09_keeps f__law_k09_one f__law_k09_great f_law C_BadSize C_BadStock C_PairError C_Stock C_TooMany c_LIMITS : Addr}
    {es_L : Array DictEntry} {nx_L : Nat} {tk_top tk_pieces : Tok}
    {nm_TooMany q_TooMany : Str} {N_TooMany : Addr} {bs_TooMany bm_TooMany sub_TooMany : List Value} {sn_TooMany : List Str} {ab_TooMany : Bool} {col_TooMany : Option Bool} {dd_TooMany : Option Addr} {k0_TooMany k1_TooMany k2_TooMany k3_TooMany k5_TooMany : Option Value}
    {nm_BadSize q_BadSize : Str} {N_BadSize : Addr} {bs_BadSize bm_BadSize sub_BadSize : List Value} {sn_BadSize : List Str} {ab_BadSize : Bool} {col_BadSize : Option Bool} {dd_BadSize : Option Addr} {k0_BadSize k1_BadSize k2_BadSize k3_BadSize k5_BadSize : Option Value}
    {nm_BadStock q_BadStock : Str} {N_BadStock : Addr} {bs_BadStock bm_BadStock sub_BadStock : List Value} {sn_BadStock : List Str} {ab_BadStock : Bool} {col_BadStock : Option Bool} {dd_BadStock : Option Addr} {k0_BadStock k1_BadStock k2_BadStock k3_BadStock k5_BadStock : Option Value}
    {od0 an0 od1 an1 od2 an2 od3 an3 od4 an4 od5 an5 od6 an6 od7 an7 od8 an8 od9 an9 od10 an10 od11 an11 od12 an12 od13 an13 od14 an14 od15 an15 od16 an16 od17 an17 od18 an18 od19 an19 od20 an20 od21 an21 od22 an22 od23 an23 od24 an24 od25 an25 od26 an26 od27 an27 od28 an28 od29 an29 od30 an30 od31 an31 od32 an32 od33 an33 od34 an34 od35 an35 od36 an36 od37 an37 od38 an38 od39 an39 od40 an40 od41 an41 od42 an42 od43 an43 od44 an44 od45 an45 od46 an46 od47 an47 : Option Addr} {sl0 sl1 sl2 sl3 sl4 sl5 sl6 sl7 sl8 sl9 sl10 sl11 sl12 sl13 sl14 sl15 sl16 sl17 sl18 sl19 sl20 sl21 sl22 sl23 sl24 sl25 sl26 sl27 sl28 sl29 sl30 sl31 sl32 sl33 sl34 sl35 sl36 sl37 sl38 sl39 sl40 sl41 sl42 sl43 sl44 sl45 sl46 sl47 : Array (Option Value)} {oc0 kV0 dc0 pm0 cd0 ct0 oc1 kV1 dc1 pm1 cd1 ct1 oc2 kV2 dc2 pm2 cd2 ct2 oc3 kV3 dc3 pm3 cd3 ct3 oc4 kV4 dc4 pm4 cd4 ct4 oc5 kV5 dc5 pm5 cd5 ct5 oc6 kV6 dc6 pm6 cd6 ct6 oc7 kV7 dc7 pm7 cd7 ct7 oc8 kV8 dc8 pm8 cd8 ct8 oc9 kV9 dc9 pm9 cd9 ct9 oc10 kV10 dc10 pm10 cd10 ct10 oc11 kV11 dc11 pm11 cd11 ct11 oc12 kV12 dc12 pm12 cd12 ct12 oc13 kV13 dc13 pm13 cd13 ct13 oc14 kV14 dc14 pm14 cd14 ct14 oc15 kV15 dc15 pm15 cd15 ct15 oc16 kV16 dc16 pm16 cd16 ct16 oc17 kV17 dc17 pm17 cd17 ct17 oc18 kV18 dc18 pm18 cd18 ct18 oc19 kV19 dc19 pm19 cd19 ct19 oc20 kV20 dc20 pm20 cd20 ct20 oc21 kV21 dc21 pm21 cd21 ct21 oc22 kV22 dc22 pm22 cd22 ct22 oc23 kV23 dc23 pm23 cd23 ct23 oc24 kV24 dc24 pm24 cd24 ct24 oc25 kV25 dc25 pm25 cd25 ct25 oc26 kV26 dc26 pm26 cd26 ct26 oc27 kV27 dc27 pm27 cd27 ct27 oc28 kV28 dc28 pm28 cd28 ct28 oc29 kV29 dc29 pm29 cd29 ct29 oc30 kV30 dc30 pm30 cd30 ct30 oc31 kV31 dc31 pm31 cd31 ct31 oc32 kV32 dc32 pm32 cd32 ct32 oc33 kV33 dc33 pm33 cd33 ct33 oc34 kV34 dc34 pm34 cd34 ct34 oc35 kV35 dc35 pm35 cd35 ct35 oc36 kV36 dc36 pm36 cd36 ct36 oc37 kV37 dc37 pm37 cd37 ct37 oc38 kV38 dc38 pm38 cd38 ct38 oc39 kV39 dc39 pm39 cd39 ct39 oc40 kV40 dc40 pm40 cd40 ct40 oc41 kV41 dc41 pm41 cd41 ct41 oc42 kV42 dc42 pm42 cd42 ct42 oc43 kV43 dc43 pm43 cd43 ct43 oc44 kV44 dc44 pm44 cd44 ct44 oc45 kV45 dc45 pm45 cd45 ct45 oc46 kV46 dc46 pm46 cd46 ct46 oc47 kV47 dc47 pm47 cd47 ct47 : Value}
    (a_TooMany___init__ : PySem.W.findIn K (.ref C_TooMany) "__init__" = some (some (.ref f_TooMany___init__)))
    (i_TooMany___init__ : PySem.W.isFn K (.ref f_TooMany___init__) = true)
    (l_TooMany___init__ : K.lookup f_TooMany___init__ = some ⟨oc0, od0, .func (PySem.W.fnOf "__init__" "TooMany.__init__" (defArgs s_TooMany___init__) (defBody s_TooMany___init__) (defScope s_TooMany___init__) .none kV0 dc0 pm0 an0 cd0 ct0), sl0⟩)
    (c_TooMany___init__ : PySem.W.codeIn K cd0 "TooMany.__init__" = true)
    (k_TooMany___init__ : PySem.W.keepIn K (.ref f_TooMany___init__) = true)
    (a_BadSize___init__ : PySem.W.findIn K (.ref C_BadSize) "__init__" = some (some (.ref f_BadSize___init__)))
    (i_BadSize___init__ : PySem.W.isFn K (.ref f_BadSize___init__) = true)
    (l_BadSize___init__ : K.lookup f_BadSize___init__ = some ⟨oc1, od1, .func (PySem.W.fnOf "__init__" "BadSize.__init__" (defArgs s_BadSize___init__) (defBody s_BadSize___init__) (defScope s_BadSize___init__) .none kV1 dc1 pm1 an1 cd1 ct1), sl1⟩)
    (c_BadSize___init__ : PySem.W.codeIn K cd1 "BadSize.__init__" = true)
    (k_BadSize___init__ : PySem.W.keepIn K (.ref f_BadSize___init__) = true)
    (a_BadStock___init__ : PySem.W.findIn K (.ref C_BadStock) "__init__" = some (some (.ref f_BadStock___init__)))
    (i_BadStock___init__ : PySem.W.isFn K (.ref f_BadStock___init__) = true)
    (l_BadStock___init__ : K.lookup f_BadStock___init__ = some ⟨oc2, od2, .func (PySem.W.fnOf "__init__" "BadStock.__init__" (defArgs s_BadStock___init__) (defBody s_BadStock___init__) (defScope s_BadStock___init__) .none kV2 dc2 pm2 an2 cd2 ct2), sl2⟩)
    (c_BadStock___init__ : PySem.W.codeIn K cd2 "BadStock.__init__" = true)
    (k_BadStock___init__ : PySem.W.keepIn K (.ref f_BadStock___init__) = true)
    (a_check : PySem.W.nsIn K mainGlobals "check" = some (some (.ref f_check)))
    (l_check : K.lookup f_check = some ⟨oc3, od3, .func (PySem.W.fnOf "check" "check" (defArgs s_check) (defBody s_check) (defScope s_check) .none kV3 dc3 pm3 an3 cd3 ct3), sl3⟩)
    (c_check : PySem.W.codeIn K cd3 "check" = true)
    (k_check : PySem.W.keepIn K (.ref f_check) = true)
    (a_check_within : PySem.W.nsIn K mainGlobals "check_within" = some (some (.ref f_check_within)))
    (l_check_within : K.lookup f_check_within = some ⟨oc4, od4, .func (PySem.W.fnOf "check_within" "check_within" (defArgs s_check_within) (defBody s_check_within) (defScope s_check_within) .none kV4 dc4 pm4 an4 cd4 ct4), sl4⟩)
    (c_check_within : PySem.W.codeIn K cd4 "check_within" = true)
    (k_check_within : PySem.W.keepIn K (.ref f_check_within) = true)
    (a_check_sizes : PySem.W.nsIn K mainGlobals "check_sizes" = some (some (.ref f_check_sizes)))
    (l_check_sizes : K.lookup f_check_sizes = some ⟨oc5, od5, .func (PySem.W.fnOf "check_sizes" "check_sizes" (defArgs s_check_sizes) (defBody s_check_sizes) (defScope s_check_sizes) .none kV5 dc5 pm5 an5 cd5 ct5), sl5⟩)
    (c_check_sizes : PySem.W.codeIn K cd5 "check_sizes" = true)
    (k_check_sizes : PySem.W.keepIn K (.ref f_check_sizes) = true)
    (a_check_stock_top : PySem.W.nsIn K mainGlobals "check_stock_top" = some (some (.ref f_check_stock_top)))
    (l_check_stock_top : K.lookup f_check_stock_top = some ⟨oc6, od6, .func (PySem.W.fnOf "check_stock_top" "check_stock_top" (defArgs s_check_stock_top) (defBody s_check_stock_top) (defScope s_check_stock_top) .none kV6 dc6 pm6 an6 cd6 ct6), sl6⟩)
    (c_check_stock_top : PySem.W.codeIn K cd6 "check_stock_top" = true)
    (k_check_stock_top : PySem.W.keepIn K (.ref f_check_stock_top) = true)
    (a_turns_of : PySem.W.nsIn K mainGlobals "turns_of" = some (some (.ref f_turns_of)))
    (l_turns_of : K.lookup f_turns_of = some ⟨oc7, od7, .func (PySem.W.fnOf "turns_of" "turns_of" (defArgs s_turns_of) (defBody s_turns_of) (defScope s_turns_of) .none kV7 dc7 pm7 an7 cd7 ct7), sl7⟩)
    (c_turns_of : PySem.W.codeIn K cd7 "turns_of" = true)
    (k_turns_of : PySem.W.keepIn K (.ref f_turns_of) = true)
    (a_skyline_of : PySem.W.nsIn K mainGlobals "skyline_of" = some (some (.ref f_skyline_of)))
    (l_skyline_of : K.lookup f_skyline_of = some ⟨oc8, od8, .func (PySem.W.fnOf "skyline_of" "skyline_of" (defArgs s_skyline_of) (defBody s_skyline_of) (defScope s_skyline_of) .none kV8 dc8 pm8 an8 cd8 ct8), sl8⟩)
    (c_skyline_of : PySem.W.codeIn K cd8 "skyline_of" = true)
    (k_skyline_of : PySem.W.keepIn K (.ref f_skyline_of) = true)
    (a_with_pieces : PySem.W.nsIn K mainGlobals "with_pieces" = some (some (.ref f_with_pieces)))
    (l_with_pieces : K.lookup f_with_pieces = some ⟨oc9, od9, .func (PySem.W.fnOf "with_pieces" "with_pieces" (defArgs s_with_pieces) (defBody s_with_pieces) (defScope s_with_pieces) .none kV9 dc9 pm9 an9 cd9 ct9), sl9⟩)
    (c_with_pieces : PySem.W.codeIn K cd9 "with_pieces" = true)
    (k_with_pieces : PySem.W.keepIn K (.ref f_with_pieces) = true)
    (a_without : PySem.W.nsIn K mainGlobals "without" = some (some (.ref f_without)))
    (l_without : K.lookup f_without = some ⟨oc10, od10, .func (PySem.W.fnOf "without" "without" (defArgs s_without) (defBody s_without) (defScope s_without) .none kV10 dc10 pm10 an10 cd10 ct10), sl10⟩)
    (c_without : PySem.W.codeIn K cd10 "without" = true)
    (k_without : PySem.W.keepIn K (.ref f_without) = true)
    (a_Stock___init__ : PySem.W.findIn K (.ref C_Stock) "__init__" = some (some (.ref f_Stock___init__)))
    (i_Stock___init__ : PySem.W.isFn K (.ref f_Stock___init__) = true)
    (l_Stock___init__ : K.lookup f_Stock___init__ = some ⟨oc11, od11, .func (PySem.W.fnOf "__init__" "Stock.__init__" (defArgs s_Stock___init__) (defBody s_Stock___init__) (defScope s_Stock___init__) .none kV11 dc11 pm11 an11 cd11 ct11), sl11⟩)
    (c_Stock___init__ : PySem.W.codeIn K cd11 "Stock.__init__" = true)
    (k_Stock___init__ : PySem.W.keepIn K (.ref f_Stock___init__) = true)
    (a_Stock_top : PySem.W.findIn K (.ref C_Stock) "top" = some (some (.ref f_Stock_top)))
    (i_Stock_top : PySem.W.isFn K (.ref f_Stock_top) = true)
    (l_Stock_top : K.lookup f_Stock_top = some ⟨oc12, od12, .func (PySem.W.fnOf "top" "Stock.top" (defArgs s_Stock_top) (defBody s_Stock_top) (defScope s_Stock_top) .none kV12 dc12 pm12 an12 cd12 ct12), sl12⟩)
    (c_Stock_top : PySem.W.codeIn K cd12 "Stock.top" = true)
    (k_Stock_top : PySem.W.keepIn K (.ref f_Stock_top) = true)
    (a_Stock_bores : PySem.W.findIn K (.ref C_Stock) "bores" = some (some (.ref f_Stock_bores)))
    (i_Stock_bores : PySem.W.isFn K (.ref f_Stock_bores) = true)
    (l_Stock_bores : K.lookup f_Stock_bores = some ⟨oc13, od13, .func (PySem.W.fnOf "bores" "Stock.bores" (defArgs s_Stock_bores) (defBody s_Stock_bores) (defScope s_Stock_bores) .none kV13 dc13 pm13 an13 cd13 ct13), sl13⟩)
    (c_Stock_bores : PySem.W.codeIn K cd13 "Stock.bores" = true)
    (k_Stock_bores : PySem.W.keepIn K (.ref f_Stock_bores) = true)
    (a_Stock_pins : PySem.W.findIn K (.ref C_Stock) "pins" = some (some (.ref f_Stock_pins)))
    (i_Stock_pins : PySem.W.isFn K (.ref f_Stock_pins) = true)
    (l_Stock_pins : K.lookup f_Stock_pins = some ⟨oc14, od14, .func (PySem.W.fnOf "pins" "Stock.pins" (defArgs s_Stock_pins) (defBody s_Stock_pins) (defScope s_Stock_pins) .none kV14 dc14 pm14 an14 cd14 ct14), sl14⟩)
    (c_Stock_pins : PySem.W.codeIn K cd14 "Stock.pins" = true)
    (k_Stock_pins : PySem.W.keepIn K (.ref f_Stock_pins) = true)
    (a_Stock_skyline : PySem.W.findIn K (.ref C_Stock) "skyline" = some (some (.ref f_Stock_skyline)))
    (i_Stock_skyline : PySem.W.isFn K (.ref f_Stock_skyline) = true)
    (l_Stock_skyline : K.lookup f_Stock_skyline = some ⟨oc15, od15, .func (PySem.W.fnOf "skyline" "Stock.skyline" (defArgs s_Stock_skyline) (defBody s_Stock_skyline) (defScope s_Stock_skyline) .none kV15 dc15 pm15 an15 cd15 ct15), sl15⟩)
    (c_Stock_skyline : PySem.W.codeIn K cd15 "Stock.skyline" = true)
    (k_Stock_skyline : PySem.W.keepIn K (.ref f_Stock_skyline) = true)
    (a_Stock_turns : PySem.W.findIn K (.ref C_Stock) "turns" = some (some (.ref f_Stock_turns)))
    (i_Stock_turns : PySem.W.isFn K (.ref f_Stock_turns) = true)
    (l_Stock_turns : K.lookup f_Stock_turns = some ⟨oc16, od16, .func (PySem.W.fnOf "turns" "Stock.turns" (defArgs s_Stock_turns) (defBody s_Stock_turns) (defScope s_Stock_turns) .none kV16 dc16 pm16 an16 cd16 ct16), sl16⟩)
    (c_Stock_turns : PySem.W.codeIn K cd16 "Stock.turns" = true)
    (k_Stock_turns : PySem.W.keepIn K (.ref f_Stock_turns) = true)
    (a_Stock_spare : PySem.W.findIn K (.ref C_Stock) "spare" = some (some (.ref f_Stock_spare)))
    (i_Stock_spare : PySem.W.isFn K (.ref f_Stock_spare) = true)
    (l_Stock_spare : K.lookup f_Stock_spare = some ⟨oc17, od17, .func (PySem.W.fnOf "spare" "Stock.spare" (defArgs s_Stock_spare) (defBody s_Stock_spare) (defScope s_Stock_spare) .none kV17 dc17 pm17 an17 cd17 ct17), sl17⟩)
    (c_Stock_spare : PySem.W.codeIn K cd17 "Stock.spare" = true)
    (k_Stock_spare : PySem.W.keepIn K (.ref f_Stock_spare) = true)
    (a_Stock_come : PySem.W.findIn K (.ref C_Stock) "come" = some (some (.ref f_Stock_come)))
    (i_Stock_come : PySem.W.isFn K (.ref f_Stock_come) = true)
    (l_Stock_come : K.lookup f_Stock_come = some ⟨oc18, od18, .func (PySem.W.fnOf "come" "Stock.come" (defArgs s_Stock_come) (defBody s_Stock_come) (defScope s_Stock_come) .none kV18 dc18 pm18 an18 cd18 ct18), sl18⟩)
    (c_Stock_come : PySem.W.codeIn K cd18 "Stock.come" = true)
    (k_Stock_come : PySem.W.keepIn K (.ref f_Stock_come) = true)
    (a_Stock_give : PySem.W.findIn K (.ref C_Stock) "give" = some (some (.ref f_Stock_give)))
    (i_Stock_give : PySem.W.isFn K (.ref f_Stock_give) = true)
    (l_Stock_give : K.lookup f_Stock_give = some ⟨oc19, od19, .func (PySem.W.fnOf "give" "Stock.give" (defArgs s_Stock_give) (defBody s_Stock_give) (defScope s_Stock_give) .none kV19 dc19 pm19 an19 cd19 ct19), sl19⟩)
    (c_Stock_give : PySem.W.codeIn K cd19 "Stock.give" = true)
    (k_Stock_give : PySem.W.keepIn K (.ref f_Stock_give) = true)
    (a_Stock_can_give : PySem.W.findIn K (.ref C_Stock) "can_give" = some (some (.ref f_Stock_can_give)))
    (i_Stock_can_give : PySem.W.isFn K (.ref f_Stock_can_give) = true)
    (l_Stock_can_give : K.lookup f_Stock_can_give = some ⟨oc20, od20, .func (PySem.W.fnOf "can_give" "Stock.can_give" (defArgs s_Stock_can_give) (defBody s_Stock_can_give) (defScope s_Stock_can_give) .none kV20 dc20 pm20 an20 cd20 ct20), sl20⟩)
    (c_Stock_can_give : PySem.W.codeIn K cd20 "Stock.can_give" = true)
    (k_Stock_can_give : PySem.W.keepIn K (.ref f_Stock_can_give) = true)
    (a_exact_size : PySem.W.nsIn K mainGlobals "exact_size" = some (some (.ref f_exact_size)))
    (l_exact_size : K.lookup f_exact_size = some ⟨oc21, od21, .func (PySem.W.fnOf "exact_size" "exact_size" (defArgs s_exact_size) (defBody s_exact_size) (defScope s_exact_size) .none kV21 dc21 pm21 an21 cd21 ct21), sl21⟩)
    (c_exact_size : PySem.W.codeIn K cd21 "exact_size" = true)
    (k_exact_size : PySem.W.keepIn K (.ref f_exact_size) = true)
    (a_bore_behind : PySem.W.nsIn K mainGlobals "bore_behind" = some (some (.ref f_bore_behind)))
    (l_bore_behind : K.lookup f_bore_behind = some ⟨oc22, od22, .func (PySem.W.fnOf "bore_behind" "bore_behind" (defArgs s_bore_behind) (defBody s_bore_behind) (defScope s_bore_behind) .none kV22 dc22 pm22 an22 cd22 ct22), sl22⟩)
    (c_bore_behind : PySem.W.codeIn K cd22 "bore_behind" = true)
    (k_bore_behind : PySem.W.keepIn K (.ref f_bore_behind) = true)
    (a_step : PySem.W.nsIn K mainGlobals "step" = some (some (.ref f_step)))
    (l_step : K.lookup f_step = some ⟨oc23, od23, .func (PySem.W.fnOf "step" "step" (defArgs s_step) (defBody s_step) (defScope s_step) .none kV23 dc23 pm23 an23 cd23 ct23), sl23⟩)
    (c_step : PySem.W.codeIn K cd23 "step" = true)
    (k_step : PySem.W.keepIn K (.ref f_step) = true)
    (a__law_purse : PySem.W.nsIn K mainGlobals "_law_purse" = some (some (.ref f__law_purse)))
    (l__law_purse : K.lookup f__law_purse = some ⟨oc24, od24, .func (PySem.W.fnOf "_law_purse" "_law_purse" (defArgs s__law_purse) (defBody s__law_purse) (defScope s__law_purse) .none kV24 dc24 pm24 an24 cd24 ct24), sl24⟩)
    (c__law_purse : PySem.W.codeIn K cd24 "_law_purse" = true)
    (k__law_purse : PySem.W.keepIn K (.ref f__law_purse) = true)
    (a__law_draw : PySem.W.nsIn K mainGlobals "_law_draw" = some (some (.ref f__law_draw)))
    (l__law_draw : K.lookup f__law_draw = some ⟨oc25, od25, .func (PySem.W.fnOf "_law_draw" "_law_draw" (defArgs s__law_draw) (defBody s__law_draw) (defScope s__law_draw) .none kV25 dc25 pm25 an25 cd25 ct25), sl25⟩)
    (c__law_draw : PySem.W.codeIn K cd25 "_law_draw" = true)
    (k__law_draw : PySem.W.keepIn K (.ref f__law_draw) = true)
    (a__law_matches : PySem.W.nsIn K mainGlobals "_law_matches" = some (some (.ref f__law_matches)))
    (l__law_matches : K.lookup f__law_matches = some ⟨oc26, od26, .func (PySem.W.fnOf "_law_matches" "_law_matches" (defArgs s__law_matches) (defBody s__law_matches) (defScope s__law_matches) .none kV26 dc26 pm26 an26 cd26 ct26), sl26⟩)
    (c__law_matches : PySem.W.codeIn K cd26 "_law_matches" = true)
    (k__law_matches : PySem.W.keepIn K (.ref f__law_matches) = true)
    (a__law_below : PySem.W.nsIn K mainGlobals "_law_below" = some (some (.ref f__law_below)))
    (l__law_below : K.lookup f__law_below = some ⟨oc27, od27, .func (PySem.W.fnOf "_law_below" "_law_below" (defArgs s__law_below) (defBody s__law_below) (defScope s__law_below) .none kV27 dc27 pm27 an27 cd27 ct27), sl27⟩)
    (c__law_below : PySem.W.codeIn K cd27 "_law_below" = true)
    (k__law_below : PySem.W.keepIn K (.ref f__law_below) = true)
    (a__law_above : PySem.W.nsIn K mainGlobals "_law_above" = some (some (.ref f__law_above)))
    (l__law_above : K.lookup f__law_above = some ⟨oc28, od28, .func (PySem.W.fnOf "_law_above" "_law_above" (defArgs s__law_above) (defBody s__law_above) (defScope s__law_above) .none kV28 dc28 pm28 an28 cd28 ct28), sl28⟩)
    (c__law_above : PySem.W.codeIn K cd28 "_law_above" = true)
    (k__law_above : PySem.W.keepIn K (.ref f__law_above) = true)
    (a__law_sky : PySem.W.nsIn K mainGlobals "_law_sky" = some (some (.ref f__law_sky)))
    (l__law_sky : K.lookup f__law_sky = some ⟨oc29, od29, .func (PySem.W.fnOf "_law_sky" "_law_sky" (defArgs s__law_sky) (defBody s__law_sky) (defScope s__law_sky) .none kV29 dc29 pm29 an29 cd29 ct29), sl29⟩)
    (c__law_sky : PySem.W.codeIn K cd29 "_law_sky" = true)
    (k__law_sky : PySem.W.keepIn K (.ref f__law_sky) = true)
    (a__law_turns : PySem.W.nsIn K mainGlobals "_law_turns" = some (some (.ref f__law_turns)))
    (l__law_turns : K.lookup f__law_turns = some ⟨oc30, od30, .func (PySem.W.fnOf "_law_turns" "_law_turns" (defArgs s__law_turns) (defBody s__law_turns) (defScope s__law_turns) .none kV30 dc30 pm30 an30 cd30 ct30), sl30⟩)
    (c__law_turns : PySem.W.codeIn K cd30 "_law_turns" = true)
    (k__law_turns : PySem.W.keepIn K (.ref f__law_turns) = true)
    (a__law_bent : PySem.W.nsIn K mainGlobals "_law_bent" = some (some (.ref f__law_bent)))
    (l__law_bent : K.lookup f__law_bent = some ⟨oc31, od31, .func (PySem.W.fnOf "_law_bent" "_law_bent" (defArgs s__law_bent) (defBody s__law_bent) (defScope s__law_bent) .none kV31 dc31 pm31 an31 cd31 ct31), sl31⟩)
    (c__law_bent : PySem.W.codeIn K cd31 "_law_bent" = true)
    (k__law_bent : PySem.W.keepIn K (.ref f__law_bent) = true)
    (a__law_within : PySem.W.nsIn K mainGlobals "_law_within" = some (some (.ref f__law_within)))
    (l__law_within : K.lookup f__law_within = some ⟨oc32, od32, .func (PySem.W.fnOf "_law_within" "_law_within" (defArgs s__law_within) (defBody s__law_within) (defScope s__law_within) .none kV32 dc32 pm32 an32 cd32 ct32), sl32⟩)
    (c__law_within : PySem.W.codeIn K cd32 "_law_within" = true)
    (k__law_within : PySem.W.keepIn K (.ref f__law_within) = true)
    (a__law_drawn_stock : PySem.W.nsIn K mainGlobals "_law_drawn_stock" = some (some (.ref f__law_drawn_stock)))
    (l__law_drawn_stock : K.lookup f__law_drawn_stock = some ⟨oc33, od33, .func (PySem.W.fnOf "_law_drawn_stock" "_law_drawn_stock" (defArgs s__law_drawn_stock) (defBody s__law_drawn_stock) (defScope s__law_drawn_stock) .none kV33 dc33 pm33 an33 cd33 ct33), sl33⟩)
    (c__law_drawn_stock : PySem.W.codeIn K cd33 "_law_drawn_stock" = true)
    (k__law_drawn_stock : PySem.W.keepIn K (.ref f__law_drawn_stock) = true)
    (a__law_exact_many : PySem.W.nsIn K mainGlobals "_law_exact_many" = some (some (.ref f__law_exact_many)))
    (l__law_exact_many : K.lookup f__law_exact_many = some ⟨oc34, od34, .func (PySem.W.fnOf "_law_exact_many" "_law_exact_many" (defArgs s__law_exact_many) (defBody s__law_exact_many) (defScope s__law_exact_many) .none kV34 dc34 pm34 an34 cd34 ct34), sl34⟩)
    (c__law_exact_many : PySem.W.codeIn K cd34 "_law_exact_many" = true)
    (k__law_exact_many : PySem.W.keepIn K (.ref f__law_exact_many) = true)
    (a__law_couples : PySem.W.nsIn K mainGlobals "_law_couples" = some (some (.ref f__law_couples)))
    (l__law_couples : K.lookup f__law_couples = some ⟨oc35, od35, .func (PySem.W.fnOf "_law_couples" "_law_couples" (defArgs s__law_couples) (defBody s__law_couples) (defScope s__law_couples) .none kV35 dc35 pm35 an35 cd35 ct35), sl35⟩)
    (c__law_couples : PySem.W.codeIn K cd35 "_law_couples" = true)
    (k__law_couples : PySem.W.keepIn K (.ref f__law_couples) = true)
    (a__law_told : PySem.W.nsIn K mainGlobals "_law_told" = some (some (.ref f__law_told)))
    (l__law_told : K.lookup f__law_told = some ⟨oc36, od36, .func (PySem.W.fnOf "_law_told" "_law_told" (defArgs s__law_told) (defBody s__law_told) (defScope s__law_told) .none kV36 dc36 pm36 an36 cd36 ct36), sl36⟩)
    (c__law_told : PySem.W.codeIn K cd36 "_law_told" = true)
    (k__law_told : PySem.W.keepIn K (.ref f__law_told) = true)
    (a__law_due : PySem.W.nsIn K mainGlobals "_law_due" = some (some (.ref f__law_due)))
    (l__law_due : K.lookup f__law_due = some ⟨oc37, od37, .func (PySem.W.fnOf "_law_due" "_law_due" (defArgs s__law_due) (defBody s__law_due) (defScope s__law_due) .none kV37 dc37 pm37 an37 cd37 ct37), sl37⟩)
    (c__law_due : PySem.W.codeIn K cd37 "_law_due" = true)
    (k__law_due : PySem.W.keepIn K (.ref f__law_due) = true)
    (a__law_eased : PySem.W.nsIn K mainGlobals "_law_eased" = some (some (.ref f__law_eased)))
    (l__law_eased : K.lookup f__law_eased = some ⟨oc38, od38, .func (PySem.W.fnOf "_law_eased" "_law_eased" (defArgs s__law_eased) (defBody s__law_eased) (defScope s__law_eased) .none kV38 dc38 pm38 an38 cd38 ct38), sl38⟩)
    (c__law_eased : PySem.W.codeIn K cd38 "_law_eased" = true)
    (k__law_eased : PySem.W.keepIn K (.ref f__law_eased) = true)
    (a__law_summed : PySem.W.nsIn K mainGlobals "_law_summed" = some (some (.ref f__law_summed)))
    (l__law_summed : K.lookup f__law_summed = some ⟨oc39, od39, .func (PySem.W.fnOf "_law_summed" "_law_summed" (defArgs s__law_summed) (defBody s__law_summed) (defScope s__law_summed) .none kV39 dc39 pm39 an39 cd39 ct39), sl39⟩)
    (c__law_summed : PySem.W.codeIn K cd39 "_law_summed" = true)
    (k__law_summed : PySem.W.keepIn K (.ref f__law_summed) = true)
    (a__law_without : PySem.W.nsIn K mainGlobals "_law_without" = some (some (.ref f__law_without)))
    (l__law_without : K.lookup f__law_without = some ⟨oc40, od40, .func (PySem.W.fnOf "_law_without" "_law_without" (defArgs s__law_without) (defBody s__law_without) (defScope s__law_without) .none kV40 dc40 pm40 an40 cd40 ct40), sl40⟩)
    (c__law_without : PySem.W.codeIn K cd40 "_law_without" = true)
    (k__law_without : PySem.W.keepIn K (.ref f__law_without) = true)
    (a__law_step : PySem.W.nsIn K mainGlobals "_law_step" = some (some (.ref f__law_step)))
    (l__law_step : K.lookup f__law_step = some ⟨oc41, od41, .func (PySem.W.fnOf "_law_step" "_law_step" (defArgs s__law_step) (defBody s__law_step) (defScope s__law_step) .none kV41 dc41 pm41 an41 cd41 ct41), sl41⟩)
    (c__law_step : PySem.W.codeIn K cd41 "_law_step" = true)
    (k__law_step : PySem.W.keepIn K (.ref f__law_step) = true)
    (a__law_k09_pieces : PySem.W.nsIn K mainGlobals "_law_k09_pieces" = some (some (.ref f__law_k09_pieces)))
    (l__law_k09_pieces : K.lookup f__law_k09_pieces = some ⟨oc42, od42, .func (PySem.W.fnOf "_law_k09_pieces" "_law_k09_pieces" (defArgs s__law_k09_pieces) (defBody s__law_k09_pieces) (defScope s__law_k09_pieces) .none kV42 dc42 pm42 an42 cd42 ct42), sl42⟩)
    (c__law_k09_pieces : PySem.W.codeIn K cd42 "_law_k09_pieces" = true)
    (k__law_k09_pieces : PySem.W.keepIn K (.ref f__law_k09_pieces) = true)
    (a__law_k09_rows : PySem.W.nsIn K mainGlobals "_law_k09_rows" = some (some (.ref f__law_k09_rows)))
    (l__law_k09_rows : K.lookup f__law_k09_rows = some ⟨oc43, od43, .func (PySem.W.fnOf "_law_k09_rows" "_law_k09_rows" (defArgs s__law_k09_rows) (defBody s__law_k09_rows) (defScope s__law_k09_rows) .none kV43 dc43 pm43 an43 cd43 ct43), sl43⟩)
    (c__law_k09_rows : PySem.W.codeIn K cd43 "_law_k09_rows" = true)
    (k__law_k09_rows : PySem.W.keepIn K (.ref f__law_k09_rows) = true)
    (a__law_k09_keeps : PySem.W.nsIn K mainGlobals "_law_k09_keeps" = some (some (.ref f__law_k09_keeps)))
    (l__law_k09_keeps : K.lookup f__law_k09_keeps = some ⟨oc44, od44, .func (PySem.W.fnOf "_law_k09_keeps" "_law_k09_keeps" (defArgs s__law_k09_keeps) (defBody s__law_k09_keeps) (defScope s__law_k09_keeps) .none kV44 dc44 pm44 an44 cd44 ct44), sl44⟩)
    (c__law_k09_keeps : PySem.W.codeIn K cd44 "_law_k09_keeps" = true)
    (k__law_k09_keeps : PySem.W.keepIn K (.ref f__law_k09_keeps) = true)
    (a__law_k09_one : PySem.W.nsIn K mainGlobals "_law_k09_one" = some (some (.ref f__law_k09_one)))
    (l__law_k09_one : K.lookup f__law_k09_one = some ⟨oc45, od45, .func (PySem.W.fnOf "_law_k09_one" "_law_k09_one" (defArgs s__law_k09_one) (defBody s__law_k09_one) (defScope s__law_k09_one) .none kV45 dc45 pm45 an45 cd45 ct45), sl45⟩)
    (c__law_k09_one : PySem.W.codeIn K cd45 "_law_k09_one" = true)
    (k__law_k09_one : PySem.W.keepIn K (.ref f__law_k09_one) = true)
    (a__law_k09_great : PySem.W.nsIn K mainGlobals "_law_k09_great" = some (some (.ref f__law_k09_great)))
    (l__law_k09_great : K.lookup f__law_k09_great = some ⟨oc46, od46, .func (PySem.W.fnOf "_law_k09_great" "_law_k09_great" (defArgs s__law_k09_great) (defBody s__law_k09_great) (defScope s__law_k09_great) .none kV46 dc46 pm46 an46 cd46 ct46), sl46⟩)
    (c__law_k09_great : PySem.W.codeIn K cd46 "_law_k09_great" = true)
    (k__law_k09_great : PySem.W.keepIn K (.ref f__law_k09_great) = true)
    (a_law : PySem.W.nsIn K mainGlobals "law" = some (some (.ref f_law)))
    (l_law : K.lookup f_law = some ⟨oc47, od47, .func (PySem.W.fnOf "law" "law" (defArgs s_law) (defBody s_law) (defScope s_law) .none kV47 dc47 pm47 an47 cd47 ct47), sl47⟩)
    (c_law : PySem.W.codeIn K cd47 "law" = true)
    (k_law : PySem.W.keepIn K (.ref f_law) = true)
    (n_ValueError : PySem.W.nsIn K mainGlobals "ValueError" = some none)
    (n_abs : PySem.W.nsIn K mainGlobals "abs" = some none)
    (n_all : PySem.W.nsIn K mainGlobals "all" = some none)
    (n_bool : PySem.W.nsIn K mainGlobals "bool" = some none)
    (n_dict : PySem.W.nsIn K mainGlobals "dict" = some none)
    (n_int : PySem.W.nsIn K mainGlobals "int" = some none)
    (n_isinstance : PySem.W.nsIn K mainGlobals "isinstance" = some none)
    (n_len : PySem.W.nsIn K mainGlobals "len" = some none)
    (n_list : PySem.W.nsIn K mainGlobals "list" = some none)
    (n_max : PySem.W.nsIn K mainGlobals "max" = some none)
    (n_min : PySem.W.nsIn K mainGlobals "min" = some none)
    (n_range : PySem.W.nsIn K mainGlobals "range" = some none)
    (n_set : PySem.W.nsIn K mainGlobals "set" = some none)
    (n_sorted : PySem.W.nsIn K mainGlobals "sorted" = some none)
    (n_str : PySem.W.nsIn K mainGlobals "str" = some none)
    (n_sum : PySem.W.nsIn K mainGlobals "sum" = some none)
    (n_tuple : PySem.W.nsIn K mainGlobals "tuple" = some none)
    (g_BadSize : PySem.W.nsIn K mainGlobals "BadSize" = some (some (.ref C_BadSize)))
    (g_BadStock : PySem.W.nsIn K mainGlobals "BadStock" = some (some (.ref C_BadStock)))
    (g_PairError : PySem.W.nsIn K mainGlobals "PairError" = some (some (.ref C_PairError)))
    (g_Stock : PySem.W.nsIn K mainGlobals "Stock" = some (some (.ref C_Stock)))
    (g_TooMany : PySem.W.nsIn K mainGlobals "TooMany" = some (some (.ref C_TooMany)))
    (g_LIMITS : PySem.W.nsIn K mainGlobals "LIMITS" = some (some (.ref c_LIMITS)))
    {t_PIECES : Tok} (g_PIECES : PySem.W.nsIn K mainGlobals "PIECES" = some (some (.int 60 t_PIECES)))
    (xl_LIMITS : K.lookup c_LIMITS = some ⟨.type "dict", none, .dict es_L nx_L, #[]⟩)
    (xk_LIMITS : PySem.W.KeysLit w.params es_L.toList)
    (xn_top : PySem.W.nsIn K c_LIMITS "top" = some (some (.int 60 tk_top)))
    (xn_pieces : PySem.W.nsIn K c_LIMITS "pieces" = some (some (.int 200 tk_pieces)))
    (oc_1 : PySem.W.specialIn K (.builtin "object.__class__") "__get__" = some (some (.builtin "getset_descriptor.__get__")))
    (oc_2 : PySem.W.takesIn K (.builtin "object.__class__") = some true)
    (ic_PairError : PySem.W.isClsIn K C_PairError = true)
    (ty_PairError : PySem.W.typeIn K (.ref C_PairError) = some (.type "type"))
    (bg_PairError : PySem.W.specialIn K (.ref C_PairError) "__getattribute__" = some (some (.builtin "type.__getattribute__")))
    (br_PairError : PySem.W.readsIn K C_PairError (.type "type") = true)
    (bi_PairError : PySem.W.findCls K (.ref C_PairError) (.type "type") "__init__" = some (.val (.builtin "ValueError.__init__")))
    (sb_PairError : PySem.W.subIn K (.ref C_PairError) (.type "BaseException") = some true)
    (ic_TooMany : PySem.W.isClsIn K C_TooMany = true)
    (ty_TooMany : PySem.W.typeIn K (.ref C_TooMany) = some (.type "type"))
    (xc_TooMany : K.lookup C_TooMany = some (excClassObj nm_TooMany q_TooMany C_TooMany N_TooMany bs_TooMany bm_TooMany true sn_TooMany sub_TooMany ab_TooMany col_TooMany dd_TooMany k0_TooMany k1_TooMany k2_TooMany k3_TooMany k5_TooMany "ValueError.__new__"))
    (rv_TooMany : PySem.HandSPX.refsVE bm_TooMany = true)
    (sa_TooMany : PySem.W.findIn K (.ref C_TooMany) "__setattr__" = some (some (.builtin "object.__setattr__")))
    (sb_TooMany : PySem.W.subIn K (.ref C_TooMany) (.type "BaseException") = some true)
    (kp_TooMany : PySem.W.keepIn K (.ref C_TooMany) = true)
    (ga_TooMany : PySem.W.findIn K (.ref C_TooMany) "__getattribute__" = some (some (.builtin "BaseException.__getattribute__")))
    (gg_TooMany : PySem.W.findIn K (.ref C_TooMany) "__getattr__" = some none)
    (hd_TooMany : PySem.W.hasDictIn K C_TooMany = true)
    (gc_TooMany : PySem.W.findIn K (.ref C_TooMany) "__class__" = some (some (.builtin "object.__class__")))
    (mr_TooMany : PySem.W.mroIn K C_TooMany (.type "object") = some true)
    (nf_TooMany_what : PySem.W.findIn K (.ref C_TooMany) "what" = some none)
    (ic_BadSize : PySem.W.isClsIn K C_BadSize = true)
    (ty_BadSize : PySem.W.typeIn K (.ref C_BadSize) = some (.type "type"))
    (sd_TooMany_BadSize : PySem.W.subIn K (.ref C_TooMany) (.ref C_BadSize) = some false)
    (nq_TooMany_BadSize : (Value.ref C_TooMany == Value.ref C_BadSize) = false)
    (ic_BadStock : PySem.W.isClsIn K C_BadStock = true)
    (ty_BadStock : PySem.W.typeIn K (.ref C_BadStock) = some (.type "type"))
    (sd_TooMany_BadStock : PySem.W.subIn K (.ref C_TooMany) (.ref C_BadStock) = some false)
    (nq_TooMany_BadStock : (Value.ref C_TooMany == Value.ref C_BadStock) = false)
    (sv_TooMany : PySem.W.subIn K (.ref C_TooMany) (.type "ValueError") = some true)
    (sp_TooMany : PySem.W.subIn K (.ref C_TooMany) (.ref C_PairError) = some true)
    (xc_BadSize : K.lookup C_BadSize = some (excClassObj nm_BadSize q_BadSize C_BadSize N_BadSize bs_BadSize bm_BadSize true sn_BadSize sub_BadSize ab_BadSize col_BadSize dd_BadSize k0_BadSize k1_BadSize k2_BadSize k3_BadSize k5_BadSize "ValueError.__new__"))
    (rv_BadSize : PySem.HandSPX.refsVE bm_BadSize = true)
    (sa_BadSize : PySem.W.findIn K (.ref C_BadSize) "__setattr__" = some (some (.builtin "object.__setattr__")))
    (sb_BadSize : PySem.W.subIn K (.ref C_BadSize) (.type "BaseException") = some true)
    (kp_BadSize : PySem.W.keepIn K (.ref C_BadSize) = true)
    (ga_BadSize : PySem.W.findIn K (.ref C_BadSize) "__getattribute__" = some (some (.builtin "BaseException.__getattribute__")))
    (gg_BadSize : PySem.W.findIn K (.ref C_BadSize) "__getattr__" = some none)
    (hd_BadSize : PySem.W.hasDictIn K C_BadSize = true)
    (gc_BadSize : PySem.W.findIn K (.ref C_BadSize) "__class__" = some (some (.builtin "object.__class__")))
    (mr_BadSize : PySem.W.mroIn K C_BadSize (.type "object") = some true)
    (nf_BadSize_what : PySem.W.findIn K (.ref C_BadSize) "what" = some none)
    (nf_BadSize_place : PySem.W.findIn K (.ref C_BadSize) "place" = some none)
    (sd_BadSize_TooMany : PySem.W.subIn K (.ref C_BadSize) (.ref C_TooMany) = some false)
    (nq_BadSize_TooMany : (Value.ref C_BadSize == Value.ref C_TooMany) = false)
    (sd_BadSize_BadStock : PySem.W.subIn K (.ref C_BadSize) (.ref C_BadStock) = some false)
    (nq_BadSize_BadStock : (Value.ref C_BadSize == Value.ref C_BadStock) = false)
    (sv_BadSize : PySem.W.subIn K (.ref C_BadSize) (.type "ValueError") = some true)
    (sp_BadSize : PySem.W.subIn K (.ref C_BadSize) (.ref C_PairError) = some true)
    (xc_BadStock : K.lookup C_BadStock = some (excClassObj nm_BadStock q_BadStock C_BadStock N_BadStock bs_BadStock bm_BadStock true sn_BadStock sub_BadStock ab_BadStock col_BadStock dd_BadStock k0_BadStock k1_BadStock k2_BadStock k3_BadStock k5_BadStock "ValueError.__new__"))
    (rv_BadStock : PySem.HandSPX.refsVE bm_BadStock = true)
    (sa_BadStock : PySem.W.findIn K (.ref C_BadStock) "__setattr__" = some (some (.builtin "object.__setattr__")))
    (sb_BadStock : PySem.W.subIn K (.ref C_BadStock) (.type "BaseException") = some true)
    (kp_BadStock : PySem.W.keepIn K (.ref C_BadStock) = true)
    (ga_BadStock : PySem.W.findIn K (.ref C_BadStock) "__getattribute__" = some (some (.builtin "BaseException.__getattribute__")))
    (gg_BadStock : PySem.W.findIn K (.ref C_BadStock) "__getattr__" = some none)
    (hd_BadStock : PySem.W.hasDictIn K C_BadStock = true)
    (gc_BadStock : PySem.W.findIn K (.ref C_BadStock) "__class__" = some (some (.builtin "object.__class__")))
    (mr_BadStock : PySem.W.mroIn K C_BadStock (.type "object") = some true)
    (nf_BadStock_what : PySem.W.findIn K (.ref C_BadStock) "what" = some none)
    (sd_BadStock_TooMany : PySem.W.subIn K (.ref C_BadStock) (.ref C_TooMany) = some false)
    (nq_BadStock_TooMany : (Value.ref C_BadStock == Value.ref C_TooMany) = false)
    (sd_BadStock_BadSize : PySem.W.subIn K (.ref C_BadStock) (.ref C_BadSize) = some false)
    (nq_BadStock_BadSize : (Value.ref C_BadStock == Value.ref C_BadSize) = false)
    (sv_BadStock : PySem.W.subIn K (.ref C_BadStock) (.type "ValueError") = some true)
    (sp_BadStock : PySem.W.subIn K (.ref C_BadStock) (.ref C_PairError) = some true)
    (pg_Stock : PySem.W.plainGet K C_Stock Str.empty = true)
    (hd_Stock : PySem.W.hasDictIn K C_Stock = true)
    (po_Stock : PySem.W.plainOver K C_Stock = true)
    (sa_Stock : PySem.W.findIn K (.ref C_Stock) "__setattr__" = some (some (.builtin "object.__setattr__")))
    (mk_Stock : PySem.W.makesIn K C_Stock = true)
    (kp_Stock : PySem.W.keepIn K (.ref C_Stock) = true)
    (na_top_number : PySem.W.findIn K (.ref C_Stock) "top_number" = some none)
    (na_bore_list : PySem.W.findIn K (.ref C_Stock) "bore_list" = some none)
    (na_pin_list : PySem.W.findIn K (.ref C_Stock) "pin_list" = some none) :
    ∃ fd : FuncData, (∀ (s : Shared) (v : Value), BindsTo s fd ⟨[v], []⟩ [("script", v)]) ∧ ∀ base : Heap, K.In base → base.Ns mainGlobals mg → FnOk P w K mg base CX0 9 fa fd ["script"] (sp_law K) := by
  have e := hfa.symm.trans (PySem.W.mg_of X G a_law)
  have e2 : f_law = fa := by cases e; rfl
  subst e2
  have T : Txt K mg w ⟨f_TooMany___init__, f_BadSize___init__, f_BadStock___init__, f_check, f_check_within, f_check_sizes, f_check_stock_top, f_turns_of, f_skyline_of, f_with_pieces, f_without, f_Stock___init__, f_Stock_top, f_Stock_bores, f_Stock_pins, f_Stock_skyline, f_Stock_turns, f_Stock_spare, f_Stock_come, f_Stock_give, f_Stock_can_give, f_exact_size, f_bore_behind, f_step, f__law_purse, f__law_draw, f__law_matches, f__law_below, f__law_above, f__law_sky, f__law_turns, f__law_bent, f__law_within, f__law_drawn_stock, f__law_exact_many, f__law_couples, f__law_told, f__law_due, f__law_eased, f__law_summed, f__law_without, f__law_step, f__law_k09_pieces, f__law_k09_rows, f__law_k09_keeps, f__law_k09_one, f__law_k09_great, f_law, C_BadSize, C_BadStock, C_PairError, C_Stock, C_TooMany, c_LIMITS⟩ ⟨PySem.W.fnOf "__init__" "TooMany.__init__" (defArgs s_TooMany___init__) (defBody s_TooMany___init__) (defScope s_TooMany___init__) .none kV0 dc0 pm0 an0 cd0 ct0, PySem.W.fnOf "__init__" "BadSize.__init__" (defArgs s_BadSize___init__) (defBody s_BadSize___init__) (defScope s_BadSize___init__) .none kV1 dc1 pm1 an1 cd1 ct1, PySem.W.fnOf "__init__" "BadStock.__init__" (defArgs s_BadStock___init__) (defBody s_BadStock___init__) (defScope s_BadStock___init__) .none kV2 dc2 pm2 an2 cd2 ct2, PySem.W.fnOf "check" "check" (defArgs s_check) (defBody s_check) (defScope s_check) .none kV3 dc3 pm3 an3 cd3 ct3, PySem.W.fnOf "check_within" "check_within" (defArgs s_check_within) (defBody s_check_within) (defScope s_check_within) .none kV4 dc4 pm4 an4 cd4 ct4, PySem.W.fnOf "check_sizes" "check_sizes" (defArgs s_check_sizes) (defBody s_check_sizes) (defScope s_check_sizes) .none kV5 dc5 pm5 an5 cd5 ct5, PySem.W.fnOf "check_stock_top" "check_stock_top" (defArgs s_check_stock_top) (defBody s_check_stock_top) (defScope s_check_stock_top) .none kV6 dc6 pm6 an6 cd6 ct6, PySem.W.fnOf "turns_of" "turns_of" (defArgs s_turns_of) (defBody s_turns_of) (defScope s_turns_of) .none kV7 dc7 pm7 an7 cd7 ct7, PySem.W.fnOf "skyline_of" "skyline_of" (defArgs s_skyline_of) (defBody s_skyline_of) (defScope s_skyline_of) .none kV8 dc8 pm8 an8 cd8 ct8, PySem.W.fnOf "with_pieces" "with_pieces" (defArgs s_with_pieces) (defBody s_with_pieces) (defScope s_with_pieces) .none kV9 dc9 pm9 an9 cd9 ct9, PySem.W.fnOf "without" "without" (defArgs s_without) (defBody s_without) (defScope s_without) .none kV10 dc10 pm10 an10 cd10 ct10, PySem.W.fnOf "__init__" "Stock.__init__" (defArgs s_Stock___init__) (defBody s_Stock___init__) (defScope s_Stock___init__) .none kV11 dc11 pm11 an11 cd11 ct11, PySem.W.fnOf "top" "Stock.top" (defArgs s_Stock_top) (defBody s_Stock_top) (defScope s_Stock_top) .none kV12 dc12 pm12 an12 cd12 ct12, PySem.W.fnOf "bores" "Stock.bores" (defArgs s_Stock_bores) (defBody s_Stock_bores) (defScope s_Stock_bores) .none kV13 dc13 pm13 an13 cd13 ct13, PySem.W.fnOf "pins" "Stock.pins" (defArgs s_Stock_pins) (defBody s_Stock_pins) (defScope s_Stock_pins) .none kV14 dc14 pm14 an14 cd14 ct14, PySem.W.fnOf "skyline" "Stock.skyline" (defArgs s_Stock_skyline) (defBody s_Stock_skyline) (defScope s_Stock_skyline) .none kV15 dc15 pm15 an15 cd15 ct15, PySem.W.fnOf "turns" "Stock.turns" (defArgs s_Stock_turns) (defBody s_Stock_turns) (defScope s_Stock_turns) .none kV16 dc16 pm16 an16 cd16 ct16, PySem.W.fnOf "spare" "Stock.spare" (defArgs s_Stock_spare) (defBody s_Stock_spare) (defScope s_Stock_spare) .none kV17 dc17 pm17 an17 cd17 ct17, PySem.W.fnOf "come" "Stock.come" (defArgs s_Stock_come) (defBody s_Stock_come) (defScope s_Stock_come) .none kV18 dc18 pm18 an18 cd18 ct18, PySem.W.fnOf "give" "Stock.give" (defArgs s_Stock_give) (defBody s_Stock_give) (defScope s_Stock_give) .none kV19 dc19 pm19 an19 cd19 ct19, PySem.W.fnOf "can_give" "Stock.can_give" (defArgs s_Stock_can_give) (defBody s_Stock_can_give) (defScope s_Stock_can_give) .none kV20 dc20 pm20 an20 cd20 ct20, PySem.W.fnOf "exact_size" "exact_size" (defArgs s_exact_size) (defBody s_exact_size) (defScope s_exact_size) .none kV21 dc21 pm21 an21 cd21 ct21, PySem.W.fnOf "bore_behind" "bore_behind" (defArgs s_bore_behind) (defBody s_bore_behind) (defScope s_bore_behind) .none kV22 dc22 pm22 an22 cd22 ct22, PySem.W.fnOf "step" "step" (defArgs s_step) (defBody s_step) (defScope s_step) .none kV23 dc23 pm23 an23 cd23 ct23, PySem.W.fnOf "_law_purse" "_law_purse" (defArgs s__law_purse) (defBody s__law_purse) (defScope s__law_purse) .none kV24 dc24 pm24 an24 cd24 ct24, PySem.W.fnOf "_law_draw" "_law_draw" (defArgs s__law_draw) (defBody s__law_draw) (defScope s__law_draw) .none kV25 dc25 pm25 an25 cd25 ct25, PySem.W.fnOf "_law_matches" "_law_matches" (defArgs s__law_matches) (defBody s__law_matches) (defScope s__law_matches) .none kV26 dc26 pm26 an26 cd26 ct26, PySem.W.fnOf "_law_below" "_law_below" (defArgs s__law_below) (defBody s__law_below) (defScope s__law_below) .none kV27 dc27 pm27 an27 cd27 ct27, PySem.W.fnOf "_law_above" "_law_above" (defArgs s__law_above) (defBody s__law_above) (defScope s__law_above) .none kV28 dc28 pm28 an28 cd28 ct28, PySem.W.fnOf "_law_sky" "_law_sky" (defArgs s__law_sky) (defBody s__law_sky) (defScope s__law_sky) .none kV29 dc29 pm29 an29 cd29 ct29, PySem.W.fnOf "_law_turns" "_law_turns" (defArgs s__law_turns) (defBody s__law_turns) (defScope s__law_turns) .none kV30 dc30 pm30 an30 cd30 ct30, PySem.W.fnOf "_law_bent" "_law_bent" (defArgs s__law_bent) (defBody s__law_bent) (defScope s__law_bent) .none kV31 dc31 pm31 an31 cd31 ct31, PySem.W.fnOf "_law_within" "_law_within" (defArgs s__law_within) (defBody s__law_within) (defScope s__law_within) .none kV32 dc32 pm32 an32 cd32 ct32, PySem.W.fnOf "_law_drawn_stock" "_law_drawn_stock" (defArgs s__law_drawn_stock) (defBody s__law_drawn_stock) (defScope s__law_drawn_stock) .none kV33 dc33 pm33 an33 cd33 ct33, PySem.W.fnOf "_law_exact_many" "_law_exact_many" (defArgs s__law_exact_many) (defBody s__law_exact_many) (defScope s__law_exact_many) .none kV34 dc34 pm34 an34 cd34 ct34, PySem.W.fnOf "_law_couples" "_law_couples" (defArgs s__law_couples) (defBody s__law_couples) (defScope s__law_couples) .none kV35 dc35 pm35 an35 cd35 ct35, PySem.W.fnOf "_law_told" "_law_told" (defArgs s__law_told) (defBody s__law_told) (defScope s__law_told) .none kV36 dc36 pm36 an36 cd36 ct36, PySem.W.fnOf "_law_due" "_law_due" (defArgs s__law_due) (defBody s__law_due) (defScope s__law_due) .none kV37 dc37 pm37 an37 cd37 ct37, PySem.W.fnOf "_law_eased" "_law_eased" (defArgs s__law_eased) (defBody s__law_eased) (defScope s__law_eased) .none kV38 dc38 pm38 an38 cd38 ct38, PySem.W.fnOf "_law_summed" "_law_summed" (defArgs s__law_summed) (defBody s__law_summed) (defScope s__law_summed) .none kV39 dc39 pm39 an39 cd39 ct39, PySem.W.fnOf "_law_without" "_law_without" (defArgs s__law_without) (defBody s__law_without) (defScope s__law_without) .none kV40 dc40 pm40 an40 cd40 ct40, PySem.W.fnOf "_law_step" "_law_step" (defArgs s__law_step) (defBody s__law_step) (defScope s__law_step) .none kV41 dc41 pm41 an41 cd41 ct41, PySem.W.fnOf "_law_k09_pieces" "_law_k09_pieces" (defArgs s__law_k09_pieces) (defBody s__law_k09_pieces) (defScope s__law_k09_pieces) .none kV42 dc42 pm42 an42 cd42 ct42, PySem.W.fnOf "_law_k09_rows" "_law_k09_rows" (defArgs s__law_k09_rows) (defBody s__law_k09_rows) (defScope s__law_k09_rows) .none kV43 dc43 pm43 an43 cd43 ct43, PySem.W.fnOf "_law_k09_keeps" "_law_k09_keeps" (defArgs s__law_k09_keeps) (defBody s__law_k09_keeps) (defScope s__law_k09_keeps) .none kV44 dc44 pm44 an44 cd44 ct44, PySem.W.fnOf "_law_k09_one" "_law_k09_one" (defArgs s__law_k09_one) (defBody s__law_k09_one) (defScope s__law_k09_one) .none kV45 dc45 pm45 an45 cd45 ct45, PySem.W.fnOf "_law_k09_great" "_law_k09_great" (defArgs s__law_k09_great) (defBody s__law_k09_great) (defScope s__law_k09_great) .none kV46 dc46 pm46 an46 cd46 ct46, PySem.W.fnOf "law" "law" (defArgs s_law) (defBody s_law) (defScope s_law) .none kV47 dc47 pm47 an47 cd47 ct47⟩ :=
    { F_TooMany___init__ := fun_mk (st := s_TooMany___init__) l_TooMany___init__ c_TooMany___init__ k_TooMany___init__,
      F_BadSize___init__ := fun_mk (st := s_BadSize___init__) l_BadSize___init__ c_BadSize___init__ k_BadSize___init__,
      F_BadStock___init__ := fun_mk (st := s_BadStock___init__) l_BadStock___init__ c_BadStock___init__ k_BadStock___init__,
      F_check := fun_mk (st := s_check) l_check c_check k_check,
      F_check_within := fun_mk (st := s_check_within) l_check_within c_check_within k_check_within,
      F_check_sizes := fun_mk (st := s_check_sizes) l_check_sizes c_check_sizes k_check_sizes,
      F_check_stock_top := fun_mk (st := s_check_stock_top) l_check_stock_top c_check_stock_top k_check_stock_top,
      F_turns_of := fun_mk (st := s_turns_of) l_turns_of c_turns_of k_turns_of,
      F_skyline_of := fun_mk (st := s_skyline_of) l_skyline_of c_skyline_of k_skyline_of,
      F_with_pieces := fun_mk (st := s_with_pieces) l_with_pieces c_with_pieces k_with_pieces,
      F_without := fun_mk (st := s_without) l_without c_without k_without,
      F_Stock___init__ := fun_mk (st := s_Stock___init__) l_Stock___init__ c_Stock___init__ k_Stock___init__,
      F_Stock_top := fun_mk (st := s_Stock_top) l_Stock_top c_Stock_top k_Stock_top,
      F_Stock_bores := fun_mk (st := s_Stock_bores) l_Stock_bores c_Stock_bores k_Stock_bores,
      F_Stock_pins := fun_mk (st := s_Stock_pins) l_Stock_pins c_Stock_pins k_Stock_pins,
      F_Stock_skyline := fun_mk (st := s_Stock_skyline) l_Stock_skyline c_Stock_skyline k_Stock_skyline,
      F_Stock_turns := fun_mk (st := s_Stock_turns) l_Stock_turns c_Stock_turns k_Stock_turns,
      F_Stock_spare := fun_mk (st := s_Stock_spare) l_Stock_spare c_Stock_spare k_Stock_spare,
      F_Stock_come := fun_mk (st := s_Stock_come) l_Stock_come c_Stock_come k_Stock_come,
      F_Stock_give := fun_mk (st := s_Stock_give) l_Stock_give c_Stock_give k_Stock_give,
      F_Stock_can_give := fun_mk (st := s_Stock_can_give) l_Stock_can_give c_Stock_can_give k_Stock_can_give,
      F_exact_size := fun_mk (st := s_exact_size) l_exact_size c_exact_size k_exact_size,
      F_bore_behind := fun_mk (st := s_bore_behind) l_bore_behind c_bore_behind k_bore_behind,
      F_step := fun_mk (st := s_step) l_step c_step k_step,
      F__law_purse := fun_mk (st := s__law_purse) l__law_purse c__law_purse k__law_purse,
      F__law_draw := fun_mk (st := s__law_draw) l__law_draw c__law_draw k__law_draw,
      F__law_matches := fun_mk (st := s__law_matches) l__law_matches c__law_matches k__law_matches,
      F__law_below := fun_mk (st := s__law_below) l__law_below c__law_below k__law_below,
      F__law_above := fun_mk (st := s__law_above) l__law_above c__law_above k__law_above,
      F__law_sky := fun_mk (st := s__law_sky) l__law_sky c__law_sky k__law_sky,
      F__law_turns := fun_mk (st := s__law_turns) l__law_turns c__law_turns k__law_turns,
      F__law_bent := fun_mk (st := s__law_bent) l__law_bent c__law_bent k__law_bent,
      F__law_within := fun_mk (st := s__law_within) l__law_within c__law_within k__law_within,
      F__law_drawn_stock := fun_mk (st := s__law_drawn_stock) l__law_drawn_stock c__law_drawn_stock k__law_drawn_stock,
      F__law_exact_many := fun_mk (st := s__law_exact_many) l__law_exact_many c__law_exact_many k__law_exact_many,
      F__law_couples := fun_mk (st := s__law_couples) l__law_couples c__law_couples k__law_couples,
      F__law_told := fun_mk (st := s__law_told) l__law_told c__law_told k__law_told,
      F__law_due := fun_mk (st := s__law_due) l__law_due c__law_due k__law_due,
      F__law_eased := fun_mk (st := s__law_eased) l__law_eased c__law_eased k__law_eased,
      F__law_summed := fun_mk (st := s__law_summed) l__law_summed c__law_summed k__law_summed,
      F__law_without := fun_mk (st := s__law_without) l__law_without c__law_without k__law_without,
      F__law_step := fun_mk (st := s__law_step) l__law_step c__law_step k__law_step,
      F__law_k09_pieces := fun_mk (st := s__law_k09_pieces) l__law_k09_pieces c__law_k09_pieces k__law_k09_pieces,
      F__law_k09_rows := fun_mk (st := s__law_k09_rows) l__law_k09_rows c__law_k09_rows k__law_k09_rows,
      F__law_k09_keeps := fun_mk (st := s__law_k09_keeps) l__law_k09_keeps c__law_k09_keeps k__law_k09_keeps,
      F__law_k09_one := fun_mk (st := s__law_k09_one) l__law_k09_one c__law_k09_one k__law_k09_one,
      F__law_k09_great := fun_mk (st := s__law_k09_great) l__law_k09_great c__law_k09_great k__law_k09_great,
      F_law := fun_mk (st := s_law) l_law c_law k_law,
      g_check := PySem.W.mg_of X G a_check,
      g_check_within := PySem.W.mg_of X G a_check_within,
      g_check_sizes := PySem.W.mg_of X G a_check_sizes,
      g_check_stock_top := PySem.W.mg_of X G a_check_stock_top,
      g_turns_of := PySem.W.mg_of X G a_turns_of,
      g_skyline_of := PySem.W.mg_of X G a_skyline_of,
      g_with_pieces := PySem.W.mg_of X G a_with_pieces,
      g_without := PySem.W.mg_of X G a_without,
      g_exact_size := PySem.W.mg_of X G a_exact_size,
      g_bore_behind := PySem.W.mg_of X G a_bore_behind,
      g_step := PySem.W.mg_of X G a_step,
      g__law_purse := PySem.W.mg_of X G a__law_purse,
      g__law_draw := PySem.W.mg_of X G a__law_draw,
      g__law_matches := PySem.W.mg_of X G a__law_matches,
      g__law_below := PySem.W.mg_of X G a__law_below,
      g__law_above := PySem.W.mg_of X G a__law_above,
      g__law_sky := PySem.W.mg_of X G a__law_sky,
      g__law_turns := PySem.W.mg_of X G a__law_turns,
      g__law_bent := PySem.W.mg_of X G a__law_bent,
      g__law_within := PySem.W.mg_of X G a__law_within,
      g__law_drawn_stock := PySem.W.mg_of X G a__law_drawn_stock,
      g__law_exact_many := PySem.W.mg_of X G a__law_exact_many,
      g__law_couples := PySem.W.mg_of X G a__law_couples,
      g__law_told := PySem.W.mg_of X G a__law_told,
      g__law_due := PySem.W.mg_of X G a__law_due,
      g__law_eased := PySem.W.mg_of X G a__law_eased,
      g__law_summed := PySem.W.mg_of X G a__law_summed,
      g__law_without := PySem.W.mg_of X G a__law_without,
      g__law_step := PySem.W.mg_of X G a__law_step,
      g__law_k09_pieces := PySem.W.mg_of X G a__law_k09_pieces,
      g__law_k09_rows := PySem.W.mg_of X G a__law_k09_rows,
      g__law_k09_keeps := PySem.W.mg_of X G a__law_k09_keeps,
      g__law_k09_one := PySem.W.mg_of X G a__law_k09_one,
      g__law_k09_great := PySem.W.mg_of X G a__law_k09_great,
      g_law := PySem.W.mg_of X G a_law,
      m_TooMany___init__ := ⟨a_TooMany___init__, i_TooMany___init__, k_TooMany___init__⟩,
      m_BadSize___init__ := ⟨a_BadSize___init__, i_BadSize___init__, k_BadSize___init__⟩,
      m_BadStock___init__ := ⟨a_BadStock___init__, i_BadStock___init__, k_BadStock___init__⟩,
      m_Stock___init__ := ⟨a_Stock___init__, i_Stock___init__, k_Stock___init__⟩,
      m_Stock_top := ⟨a_Stock_top, i_Stock_top, k_Stock_top⟩,
      m_Stock_bores := ⟨a_Stock_bores, i_Stock_bores, k_Stock_bores⟩,
      m_Stock_pins := ⟨a_Stock_pins, i_Stock_pins, k_Stock_pins⟩,
      m_Stock_skyline := ⟨a_Stock_skyline, i_Stock_skyline, k_Stock_skyline⟩,
      m_Stock_turns := ⟨a_Stock_turns, i_Stock_turns, k_Stock_turns⟩,
      m_Stock_spare := ⟨a_Stock_spare, i_Stock_spare, k_Stock_spare⟩,
      m_Stock_come := ⟨a_Stock_come, i_Stock_come, k_Stock_come⟩,
      m_Stock_give := ⟨a_Stock_give, i_Stock_give, k_Stock_give⟩,
      m_Stock_can_give := ⟨a_Stock_can_give, i_Stock_can_give, k_Stock_can_give⟩,
      g_BadSize := PySem.W.mg_of X G g_BadSize,
      g_BadStock := PySem.W.mg_of X G g_BadStock,
      g_PairError := PySem.W.mg_of X G g_PairError,
      g_Stock := PySem.W.mg_of X G g_Stock,
      g_TooMany := PySem.W.mg_of X G g_TooMany,
      n_ValueError := PySem.W.mg_none_of X G n_ValueError,
      n_abs := PySem.W.mg_none_of X G n_abs,
      n_all := PySem.W.mg_none_of X G n_all,
      n_bool := PySem.W.mg_none_of X G n_bool,
      n_dict := PySem.W.mg_none_of X G n_dict,
      n_int := PySem.W.mg_none_of X G n_int,
      n_isinstance := PySem.W.mg_none_of X G n_isinstance,
      n_len := PySem.W.mg_none_of X G n_len,
      n_list := PySem.W.mg_none_of X G n_list,
      n_max := PySem.W.mg_none_of X G n_max,
      n_min := PySem.W.mg_none_of X G n_min,
      n_range := PySem.W.mg_none_of X G n_range,
      n_set := PySem.W.mg_none_of X G n_set,
      n_sorted := PySem.W.mg_none_of X G n_sorted,
      n_str := PySem.W.mg_none_of X G n_str,
      n_sum := PySem.W.mg_none_of X G n_sum,
      n_tuple := PySem.W.mg_none_of X G n_tuple,
      g_LIMITS := PySem.W.mg_of X G g_LIMITS,
      g_PIECES := ⟨_, PySem.W.mg_of X G g_PIECES⟩,
      x_top := ⟨_, _, _, xl_LIMITS, xk_LIMITS, xn_top, ⟨_, rfl⟩⟩,
      x_pieces := ⟨_, _, _, xl_LIMITS, xk_LIMITS, xn_pieces, ⟨_, rfl⟩⟩,
      be_PairError := ⟨bg_PairError, ty_PairError, br_PairError, bi_PairError⟩,
      oe_TooMany := ⟨⟨_, _, _, _, _, _, _, _, _, _, _, _, _, _, _, xc_TooMany, rv_TooMany⟩, sa_TooMany, sb_TooMany, ty_TooMany, kp_TooMany⟩,
      ec_TooMany := ⟨ga_TooMany, gg_TooMany, sb_TooMany, hd_TooMany, gc_TooMany, oc_1, oc_2, mr_TooMany⟩,
      no_TooMany_what := nf_TooMany_what,
      ki_TooMany_TooMany := DL.kit_same,
      ki_TooMany_BadSize := DL.kit_ne nq_TooMany_BadSize ic_BadSize ty_BadSize sd_TooMany_BadSize,
      ki_TooMany_BadStock := DL.kit_ne nq_TooMany_BadStock ic_BadStock ty_BadStock sd_TooMany_BadStock,
      ki_TooMany_V := DL.kit_ty rfl (by decide +kernel) sv_TooMany,
      ex_TooMany := DL.exm_own sb_PairError ic_PairError ty_PairError sp_TooMany,
      oe_BadSize := ⟨⟨_, _, _, _, _, _, _, _, _, _, _, _, _, _, _, xc_BadSize, rv_BadSize⟩, sa_BadSize, sb_BadSize, ty_BadSize, kp_BadSize⟩,
      ec_BadSize := ⟨ga_BadSize, gg_BadSize, sb_BadSize, hd_BadSize, gc_BadSize, oc_1, oc_2, mr_BadSize⟩,
      no_BadSize_what := nf_BadSize_what,
      no_BadSize_place := nf_BadSize_place,
      ki_BadSize_TooMany := DL.kit_ne nq_BadSize_TooMany ic_TooMany ty_TooMany sd_BadSize_TooMany,
      ki_BadSize_BadSize := DL.kit_same,
      ki_BadSize_BadStock := DL.kit_ne nq_BadSize_BadStock ic_BadStock ty_BadStock sd_BadSize_BadStock,
      ki_BadSize_V := DL.kit_ty rfl (by decide +kernel) sv_BadSize,
      ex_BadSize := DL.exm_own sb_PairError ic_PairError ty_PairError sp_BadSize,
      oe_BadStock := ⟨⟨_, _, _, _, _, _, _, _, _, _, _, _, _, _, _, xc_BadStock, rv_BadStock⟩, sa_BadStock, sb_BadStock, ty_BadStock, kp_BadStock⟩,
      ec_BadStock := ⟨ga_BadStock, gg_BadStock, sb_BadStock, hd_BadStock, gc_BadStock, oc_1, oc_2, mr_BadStock⟩,
      no_BadStock_what := nf_BadStock_what,
      ki_BadStock_TooMany := DL.kit_ne nq_BadStock_TooMany ic_TooMany ty_TooMany sd_BadStock_TooMany,
      ki_BadStock_BadSize := DL.kit_ne nq_BadStock_BadSize ic_BadSize ty_BadSize sd_BadStock_BadSize,
      ki_BadStock_BadStock := DL.kit_same,
      ki_BadStock_V := DL.kit_ty rfl (by decide +kernel) sv_BadStock,
      ex_BadStock := DL.exm_own sb_PairError ic_PairError ty_PairError sp_BadStock,
      cl_Stock := ⟨pg_Stock, hd_Stock, po_Stock, sa_Stock⟩,
      mk_Stock := ⟨mk_Stock, a_Stock___init__, i_Stock___init__, kp_Stock⟩,
      na_top_number := na_top_number,
      na_bore_list := na_bore_list,
      na_pin_list := na_pin_list }
  exact ⟨_, fun s v => .of_eq rfl, fun base _ _ => ok_law T⟩
theorem walk {l : PySem.W.OpenLaw} {q : Program} {loose : List Str} {XP : (Str → Option Value) → Heap → Prop} {YP : World → Heap → Prop} {d : DefRec} {K : Params → PySem.W.Frag} (hn : l.most = some 63) (hdf : d.params.defaults = [])
    (hY : ∀ (w : World) (h : Heap), YP w h → (K w.params).In h)
    (F : ∀ (w : World) (mg : Str → Option Value) (fa : Addr) (h : Heap), (K w.params).In h → h.Ns mainGlobals mg → mg d.name = some (.ref fa) →
      ∃ fd : FuncData, (∀ (s : Shared) (u : Value), BindsTo s fd ⟨[u], []⟩ [("script", u)]) ∧ ∀ base : Heap, (K w.params).In base → base.Ns mainGlobals mg → FnOk l.prog w (K w.params) mg base CX0 9 fa fd ["script"] (sp_law (K w.params))) :
    PySem.W.WalkO q loose XP YP l.row.toRowW d [] (fun f vs => PySem.call f vs) :=
  L2.walk_of (n := 63) (k := 9) (x := "script") (CX := fun _ => CX0) (sp := fun w => sp_law (K w.params)) hn (by decide) hdf ⟨rfl, by decide, by decide⟩ hY F (fun _ _ a ns hl _ hS => ⟨a, ns, rfl, hS, hl, fun _ => rfl⟩) fun _ _ _ _ _ z => z
end K09
open PySem PySem.W PyProof.Rows in
set_option maxRecDepth 100000 in
set_option maxHeartbeats 0 in
theorem PySem.Challenge.cw_nextpair_k09_pairs_below_any_row_holds : PySem.Challenge.rw_nextpair_k09_pairs_below_any_row.Holds := by
  w_on; o_law; k_head; (case hw => w_witness2)
  k_fill
  refine K09.walk (l := PySem.Challenge.rw_nextpair_k09_pairs_below_any_row) rfl rfl (fun w h Y => PySem.W.kIn_of Y) ?F
  case F =>
    intro w mg fa h KX G hmg
    refine' K09.all_mk KX G hmg ?a_TooMany___init__ ?i_TooMany___init__ ?l_TooMany___init__ ?c_TooMany___init__ ?k_TooMany___init__ ?a_BadSize___init__ ?i_BadSize___init__ ?l_BadSize___init__ ?c_BadSize___init__ ?k_BadSize___init__ ?a_BadStock___init__ ?i_BadStock___init__ ?l_BadStock___init__ ?c_BadStock___init__ ?k_BadStock___init__ ?a_check ?l_check ?c_check ?k_check ?a_check_within ?l_check_within ?c_check_within ?k_check_within ?a_check_sizes ?l_check_sizes ?c_check_sizes ?k_check_sizes ?a_check_stock_top ?l_check_stock_top ?c_check_stock_top ?k_check_stock_top ?a_turns_of ?l_turns_of ?c_turns_of ?k_turns_of ?a_skyline_of ?l_skyline_of ?c_skyline_of ?k_skyline_of ?a_with_pieces ?l_with_pieces ?c_with_pieces ?k_with_pieces ?a_without ?l_without ?c_without ?k_without ?a_Stock___init__ ?i_Stock___init__ ?l_Stock___init__ ?c_Stock___init__ ?k_Stock___init__ ?a_Stock_top ?i_Stock_top ?l_Stock_top ?c_Stock_top ?k_Stock_top ?a_Stock_bores ?i_Stock_bores ?l_Stock_bores ?c_Stock_bores ?k_Stock_bores ?a_Stock_pins ?i_Stock_pins ?l_Stock_pins ?c_Stock_pins ?k_Stock_pins ?a_Stock_skyline ?i_Stock_skyline ?l_Stock_skyline ?c_Stock_skyline ?k_Stock_skyline ?a_Stock_turns ?i_Stock_turns ?l_Stock_turns ?c_Stock_turns ?k_Stock_turns ?a_Stock_spare ?i_Stock_spare ?l_Stock_spare ?c_Stock_spare ?k_Stock_spare ?a_Stock_come ?i_Stock_come ?l_Stock_come ?c_Stock_come ?k_Stock_come ?a_Stock_give ?i_Stock_give ?l_Stock_give ?c_Stock_give ?k_Stock_give ?a_Stock_can_give ?i_Stock_can_give ?l_Stock_can_give ?c_Stock_can_give ?k_Stock_can_give ?a_exact_size ?l_exact_size ?c_exact_size ?k_exact_size ?a_bore_behind ?l_bore_behind ?c_bore_behind ?k_bore_behind ?a_step ?l_step ?c_step ?k_step ?a__law_purse ?l__law_purse ?c__law_purse ?k__law_purse ?a__law_draw ?l__law_draw ?c__law_draw ?k__law_draw ?a__law_matches ?l__law_matches ?c__law_matches ?k__law_matches ?a__law_below ?l__law_below ?c__law_below ?k__law_below ?a__law_above ?l__law_above ?c__law_above ?k__law_above ?a__law_sky ?l__law_sky ?c__law_sky ?k__law_sky ?a__law_turns ?l__law_turns ?c__law_turns ?k__law_turns ?a__law_bent ?l__law_bent ?c__law_bent ?k__law_bent ?a__law_within ?l__law_within ?c__law_within ?k__law_within ?a__law_drawn_stock ?l__law_drawn_stock ?c__law_drawn_stock ?k__law_drawn_stock ?a__law_exact_many ?l__law_exact_many ?c__law_exact_many ?k__law_exact_many ?a__law_couples ?l__law_couples ?c__law_couples ?k__law_couples ?a__law_told ?l__law_told ?c__law_told ?k__law_told ?a__law_due ?l__law_due ?c__law_due ?k__law_due ?a__law_eased ?l__law_eased ?c__law_eased ?k__law_eased ?a__law_summed ?l__law_summed ?c__law_summed ?k__law_summed ?a__law_without ?l__law_without ?c__law_without ?k__law_without ?a__law_step ?l__law_step ?c__law_step ?k__law_step ?a__law_k09_pieces ?l__law_k09_pieces ?c__law_k09_pieces ?k__law_k09_pieces ?a__law_k09_rows ?l__law_k09_rows ?c__law_k09_rows ?k__law_k09_rows ?a__law_k09_keeps ?l__law_k09_keeps ?c__law_k09_keeps ?k__law_k09_keeps ?a__law_k09_one ?l__law_k09_one ?c__law_k09_one ?k__law_k09_one ?a__law_k09_great ?l__law_k09_great ?c__law_k09_great ?k__law_k09_great ?a_law ?l_law ?c_law ?k_law ?n_ValueError ?n_abs ?n_all ?n_bool ?n_dict ?n_int ?n_isinstance ?n_len ?n_list ?n_max ?n_min ?n_range ?n_set ?n_sorted ?n_str ?n_sum ?n_tuple ?g_BadSize ?g_BadStock ?g_PairError ?g_Stock ?g_TooMany ?g_LIMITS ?g_PIECES ?xl_LIMITS ?xk_LIMITS ?xn_top ?xn_pieces ?oc_1 ?oc_2 ?ic_PairError ?ty_PairError ?bg_PairError ?br_PairError ?bi_PairError ?sb_PairError ?ic_TooMany ?ty_TooMany ?xc_TooMany ?rv_TooMany ?sa_TooMany ?sb_TooMany ?kp_TooMany ?ga_TooMany ?gg_TooMany ?hd_TooMany ?gc_TooMany ?mr_TooMany ?nf_TooMany_what ?ic_BadSize ?ty_BadSize ?sd_TooMany_BadSize ?nq_TooMany_BadSize ?ic_BadStock ?ty_BadStock ?sd_TooMany_BadStock ?nq_TooMany_BadStock ?sv_TooMany ?sp_TooMany ?xc_BadSize ?rv_BadSize ?sa_BadSize ?sb_BadSize ?kp_BadSize ?ga_BadSize ?gg_BadSize ?hd_BadSize ?gc_BadSize ?mr_BadSize ?nf_BadSize_what ?nf_BadSize_place ?sd_BadSize_TooMany ?nq_BadSize_TooMany ?sd_BadSize_BadStock ?nq_BadSize_BadStock ?sv_BadSize ?sp_BadSize ?xc_BadStock ?rv_BadStock ?sa_BadStock ?sb_BadStock ?kp_BadStock ?ga_BadStock ?gg_BadStock ?hd_BadStock ?gc_BadStock ?mr_BadStock ?nf_BadStock_what ?sd_BadStock_TooMany ?nq_BadStock_TooMany ?sd_BadStock_BadSize ?nq_BadStock_BadSize ?sv_BadStock ?sp_BadStock ?pg_Stock ?hd_Stock ?po_Stock ?sa_Stock ?mk_Stock ?kp_Stock ?na_top_number ?na_bore_list ?na_pin_list
    (case g_BadSize => k_is)
    (case g_BadStock => k_is)
    (case g_PairError => k_is)
    (case g_Stock => k_is)
    (case g_TooMany => k_is)
    (case a_TooMany___init__ => k_is)
    (case i_TooMany___init__ => k_is)
    (case l_TooMany___init__ => k_is)
    (case c_TooMany___init__ => k_is)
    (case k_TooMany___init__ => k_is)
    (case a_BadSize___init__ => k_is)
    (case i_BadSize___init__ => k_is)
    (case l_BadSize___init__ => k_is)
    (case c_BadSize___init__ => k_is)
    (case k_BadSize___init__ => k_is)
    (case a_BadStock___init__ => k_is)
    (case i_BadStock___init__ => k_is)
    (case l_BadStock___init__ => k_is)
    (case c_BadStock___init__ => k_is)
    (case k_BadStock___init__ => k_is)
    (case a_check => k_is)
    (case l_check => k_is)
    (case c_check => k_is)
    (case k_check => k_is)
    (case a_check_within => k_is)
    (case l_check_within => k_is)
    (case c_check_within => k_is)
    (case k_check_within => k_is)
    (case a_check_sizes => k_is)
    (case l_check_sizes => k_is)
    (case c_check_sizes => k_is)
    (case k_check_sizes => k_is)
    (case a_check_stock_top => k_is)
    (case l_check_stock_top => k_is)
    (case c_check_stock_top => k_is)
    (case k_check_stock_top => k_is)
    (case a_turns_of => k_is)
    (case l_turns_of => k_is)
    (case c_turns_of => k_is)
    (case k_turns_of => k_is)
    (case a_skyline_of => k_is)
    (case l_skyline_of => k_is)
    (case c_skyline_of => k_is)
    (case k_skyline_of => k_is)
    (case a_with_pieces => k_is)
    (case l_with_pieces => k_is)
    (case c_with_pieces => k_is)
    (case k_with_pieces => k_is)
    (case a_without => k_is)
    (case l_without => k_is)
    (case c_without => k_is)
    (case k_without => k_is)
    (case a_Stock___init__ => k_is)
    (case i_Stock___init__ => k_is)
    (case l_Stock___init__ => k_is)
    (case c_Stock___init__ => k_is)
    (case k_Stock___init__ => k_is)
    (case a_Stock_top => k_is)
    (case i_Stock_top => k_is)
    (case l_Stock_top => k_is)
    (case c_Stock_top => k_is)
    (case k_Stock_top => k_is)
    (case a_Stock_bores => k_is)
    (case i_Stock_bores => k_is)
    (case l_Stock_bores => k_is)
    (case c_Stock_bores => k_is)
    (case k_Stock_bores => k_is)
    (case a_Stock_pins => k_is)
    (case i_Stock_pins => k_is)
    (case l_Stock_pins => k_is)
    (case c_Stock_pins => k_is)
    (case k_Stock_pins => k_is)
    (case a_Stock_skyline => k_is)
    (case i_Stock_skyline => k_is)
    (case l_Stock_skyline => k_is)
    (case c_Stock_skyline => k_is)
    (case k_Stock_skyline => k_is)
    (case a_Stock_turns => k_is)
    (case i_Stock_turns => k_is)
    (case l_Stock_turns => k_is)
    (case c_Stock_turns => k_is)
    (case k_Stock_turns => k_is)
    (case a_Stock_spare => k_is)
    (case i_Stock_spare => k_is)
    (case l_Stock_spare => k_is)
    (case c_Stock_spare => k_is)
    (case k_Stock_spare => k_is)
    (case a_Stock_come => k_is)
    (case i_Stock_come => k_is)
    (case l_Stock_come => k_is)
    (case c_Stock_come => k_is)
    (case k_Stock_come => k_is)
    (case a_Stock_give => k_is)
    (case i_Stock_give => k_is)
    (case l_Stock_give => k_is)
    (case c_Stock_give => k_is)
    (case k_Stock_give => k_is)
    (case a_Stock_can_give => k_is)
    (case i_Stock_can_give => k_is)
    (case l_Stock_can_give => k_is)
    (case c_Stock_can_give => k_is)
    (case k_Stock_can_give => k_is)
    (case a_exact_size => k_is)
    (case l_exact_size => k_is)
    (case c_exact_size => k_is)
    (case k_exact_size => k_is)
    (case a_bore_behind => k_is)
    (case l_bore_behind => k_is)
    (case c_bore_behind => k_is)
    (case k_bore_behind => k_is)
    (case a_step => k_is)
    (case l_step => k_is)
    (case c_step => k_is)
    (case k_step => k_is)
    (case a__law_purse => k_is)
    (case l__law_purse => k_is)
    (case c__law_purse => k_is)
    (case k__law_purse => k_is)
    (case a__law_draw => k_is)
    (case l__law_draw => k_is)
    (case c__law_draw => k_is)
    (case k__law_draw => k_is)
    (case a__law_matches => k_is)
    (case l__law_matches => k_is)
    (case c__law_matches => k_is)
    (case k__law_matches => k_is)
    (case a__law_below => k_is)
    (case l__law_below => k_is)
    (case c__law_below => k_is)
    (case k__law_below => k_is)
    (case a__law_above => k_is)
    (case l__law_above => k_is)
    (case c__law_above => k_is)
    (case k__law_above => k_is)
    (case a__law_sky => k_is)
    (case l__law_sky => k_is)
    (case c__law_sky => k_is)
    (case k__law_sky => k_is)
    (case a__law_turns => k_is)
    (case l__law_turns => k_is)
    (case c__law_turns => k_is)
    (case k__law_turns => k_is)
    (case a__law_bent => k_is)
    (case l__law_bent => k_is)
    (case c__law_bent => k_is)
    (case k__law_bent => k_is)
    (case a__law_within => k_is)
    (case l__law_within => k_is)
    (case c__law_within => k_is)
    (case k__law_within => k_is)
    (case a__law_drawn_stock => k_is)
    (case l__law_drawn_stock => k_is)
    (case c__law_drawn_stock => k_is)
    (case k__law_drawn_stock => k_is)
    (case a__law_exact_many => k_is)
    (case l__law_exact_many => k_is)
    (case c__law_exact_many => k_is)
    (case k__law_exact_many => k_is)
    (case a__law_couples => k_is)
    (case l__law_couples => k_is)
    (case c__law_couples => k_is)
    (case k__law_couples => k_is)
    (case a__law_told => k_is)
    (case l__law_told => k_is)
    (case c__law_told => k_is)
    (case k__law_told => k_is)
    (case a__law_due => k_is)
    (case l__law_due => k_is)
    (case c__law_due => k_is)
    (case k__law_due => k_is)
    (case a__law_eased => k_is)
    (case l__law_eased => k_is)
    (case c__law_eased => k_is)
    (case k__law_eased => k_is)
    (case a__law_summed => k_is)
    (case l__law_summed => k_is)
    (case c__law_summed => k_is)
    (case k__law_summed => k_is)
    (case a__law_without => k_is)
    (case l__law_without => k_is)
    (case c__law_without => k_is)
    (case k__law_without => k_is)
    (case a__law_step => k_is)
    (case l__law_step => k_is)
    (case c__law_step => k_is)
    (case k__law_step => k_is)
    (case a__law_k09_pieces => k_is)
    (case l__law_k09_pieces => k_is)
    (case c__law_k09_pieces => k_is)
    (case k__law_k09_pieces => k_is)
    (case a__law_k09_rows => k_is)
    (case l__law_k09_rows => k_is)
    (case c__law_k09_rows => k_is)
    (case k__law_k09_rows => k_is)
    (case a__law_k09_keeps => k_is)
    (case l__law_k09_keeps => k_is)
    (case c__law_k09_keeps => k_is)
    (case k__law_k09_keeps => k_is)
    (case a__law_k09_one => k_is)
    (case l__law_k09_one => k_is)
    (case c__law_k09_one => k_is)
    (case k__law_k09_one => k_is)
    (case a__law_k09_great => k_is)
    (case l__law_k09_great => k_is)
    (case c__law_k09_great => k_is)
    (case k__law_k09_great => k_is)
    (case a_law => k_is)
    (case l_law => k_is)
    (case c_law => k_is)
    (case k_law => k_is)
    (case n_ValueError => k_is)
    (case n_abs => k_is)
    (case n_all => k_is)
    (case n_bool => k_is)
    (case n_dict => k_is)
    (case n_int => k_is)
    (case n_isinstance => k_is)
    (case n_len => k_is)
    (case n_list => k_is)
    (case n_max => k_is)
    (case n_min => k_is)
    (case n_range => k_is)
    (case n_set => k_is)
    (case n_sorted => k_is)
    (case n_str => k_is)
    (case n_sum => k_is)
    (case n_tuple => k_is)
    (case g_LIMITS => k_is)
    (case g_PIECES => k_is)
    (case xl_LIMITS => k_is)
    (case xk_LIMITS => (repeat' first | exact trivial | (refine ⟨⟨_, _, rfl, rfl⟩, ?_⟩)))
    (case xn_top => k_is)
    (case xn_pieces => k_is)
    (case oc_1 => k_is)
    (case oc_2 => k_is)
    (case ic_PairError => k_is)
    (case ty_PairError => k_is)
    (case bg_PairError => k_is)
    (case br_PairError => k_is)
    (case bi_PairError => k_is)
    (case sb_PairError => k_is)
    (case ic_TooMany => k_is)
    (case ty_TooMany => k_is)
    (case xc_TooMany => k_is)
    (case rv_TooMany => first | rfl | decide +kernel)
    (case sa_TooMany => k_is)
    (case sb_TooMany => k_is)
    (case kp_TooMany => k_is)
    (case ga_TooMany => k_is)
    (case gg_TooMany => k_is)
    (case hd_TooMany => k_is)
    (case gc_TooMany => k_is)
    (case mr_TooMany => k_is)
    (case nf_TooMany_what => k_is)
    (case ic_BadSize => k_is)
    (case ty_BadSize => k_is)
    (case sd_TooMany_BadSize => k_is)
    (case nq_TooMany_BadSize => first | rfl | decide +kernel)
    (case ic_BadStock => k_is)
    (case ty_BadStock => k_is)
    (case sd_TooMany_BadStock => k_is)
    (case nq_TooMany_BadStock => first | rfl | decide +kernel)
    (case sv_TooMany => k_is)
    (case sp_TooMany => k_is)
    (case xc_BadSize => k_is)
    (case rv_BadSize => first | rfl | decide +kernel)
    (case sa_BadSize => k_is)
    (case sb_BadSize => k_is)
    (case kp_BadSize => k_is)
    (case ga_BadSize => k_is)
    (case gg_BadSize => k_is)
    (case hd_BadSize => k_is)
    (case gc_BadSize => k_is)
    (case mr_BadSize => k_is)
    (case nf_BadSize_what => k_is)
    (case nf_BadSize_place => k_is)
    (case sd_BadSize_TooMany => k_is)
    (case nq_BadSize_TooMany => first | rfl | decide +kernel)
    (case sd_BadSize_BadStock => k_is)
    (case nq_BadSize_BadStock => first | rfl | decide +kernel)
    (case sv_BadSize => k_is)
    (case sp_BadSize => k_is)
    (case xc_BadStock => k_is)
    (case rv_BadStock => first | rfl | decide +kernel)
    (case sa_BadStock => k_is)
    (case sb_BadStock => k_is)
    (case kp_BadStock => k_is)
    (case ga_BadStock => k_is)
    (case gg_BadStock => k_is)
    (case hd_BadStock => k_is)
    (case gc_BadStock => k_is)
    (case mr_BadStock => k_is)
    (case nf_BadStock_what => k_is)
    (case sd_BadStock_TooMany => k_is)
    (case nq_BadStock_TooMany => first | rfl | decide +kernel)
    (case sd_BadStock_BadSize => k_is)
    (case nq_BadStock_BadSize => first | rfl | decide +kernel)
    (case sv_BadStock => k_is)
    (case sp_BadStock => k_is)
    (case pg_Stock => k_is)
    (case hd_Stock => k_is)
    (case po_Stock => k_is)
    (case sa_Stock => k_is)
    (case mk_Stock => k_is)
    (case kp_Stock => k_is)
    (case na_top_number => k_is)
    (case na_bore_list => k_is)
    (case na_pin_list => k_is)
